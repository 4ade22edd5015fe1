import PyProof.Rows.All
import Wide.All
import OpenK.AllK
import Wide.FinOn
import Lean
import PySem.Challenge.RW_oj0035_01
open PySem PySem.W PyProof.Rows
set_option Elab.async false
set_option maxRecDepth 100000
namespace Mine
noncomputable def q : Program := view PySem.Challenge.pw_oj0035_01 [0, 2, 5, 6, 7, 8, 9, 10, 11, 13, 14, 15, 17, 19, 20, 22, 23, 24, 25, 26, 27, 28, 29, 30, 31, 32, 33, 34, 35, 36, 37, 38, 39, 40, 41, 42, 43, 45, 46, 47, 48, 49, 50, 51, 53, 55, 56, 58, 59, 60, 61, 62, 63, 64, 65, 66, 67, 68, 69, 70, 71, 77, 78, 80, 81, 82, 83, 84, 85]
theorem headT (H : Hook) {d : DefRec} {kwd : List (Str × Expr)} (_ : defOf Mine.q PySem.Challenge.rw_oj0035_01.row.name = some (d, kwd)) (bot : False)
    (_ : WalkO Mine.q [Str.ofString "row_of_text", Str.ofString "ParseState", Str.ofString "is_of", Str.ofString "skip_forward", Str.ofString "skip_backward"] (XL Mine.q []) H.says PySem.Challenge.rw_oj0035_01.row.toRowW d kwd fun f vs => PySem.call f vs) : PySem.Challenge.rw_oj0035_01.row.Holds := bot.elim
section
set_option hygiene false in
local macro_rules | `(tactic| o_head $H) => `(tactic| (refine' headT $H ?hd9 bot ?hh9; (case hd9 => exact rfl); (case hh9 => exact h)))
set_option maxHeartbeats 8000000 in
def T : Prop := by
  refine' (fun (X : Prop) (_ : False → X → PySem.Challenge.rw_oj0035_01.Holds) => X) _ (fun bot h => _)
  rotate_left
  w_on
  refine holds_law bot.elim fun said => ?_
  k_head
end
open PySem.Spec PySem.Calls
def Qz (T : Prop) (_ : T) : Prop := T
theorem qz {T : Prop} {p : T} : Qz T p := p
theorem tops : True := by
  w_top off
  trivial
noncomputable abbrev Led := List (Addr × Obj)
noncomputable abbrev PR : Program := PySem.Challenge.rw_oj0035_01.row.prog

structure Gives (w : World) (f : Addr) (d : Nat) (vs : List Value) (news : Led) (R : Value → Prop) : Prop where
  run : ∀ (p : Program) (loose : List Str) (mean : ExcName → Option Value) (mg mb : Str → Option Value)
    (dp un : Nat) (gd : Option (List Code)) (cn : Str) (cs : Scope) (a : Addr) (ccd : Value) (cl : List (Str × Addr)) (outer : List Env)
    (A₀ : Around) (base h₀ : Heap) (L : Addr) (m : Str → Option Value) (s : Shared) (Q E : Value → Shared → Prop),
    Below A₀ base outer h₀ → Fr h₀ L s.heap m → (Mine.T.heap_1 w.params).In h₀ → News h₀ L s.heap news → Top p loose mean mg mb h₀ → cs.kind = .function →
    dp + d < recursionLimit → un + 8 * d < cLine →
    (∀ r h' tk', R r → Fr h₀ L h' m → News h₀ L h' news → Q r { s with heap := h', toks := tk' }) →
    wpAny (model PR w) (ktrTop dp un gd cn cs L a ccd cl outer) (call (.ref f) vs) Q E s

theorem Gives.use {w : World} {f : Addr} {d : Nat} {vs : List Value} {news : Led} {R : Value → Prop}
    {p : Program} {loose : List Str} {mean : ExcName → Option Value} {mg mb : Str → Option Value}
    {dp un : Nat} {gd : Option (List Code)} {cn : Str} {cs : Scope} {a : Addr} {ccd : Value} {cl : List (Str × Addr)} {outer : List Env}
    {A₀ : Around} {base h₀ : Heap} {L : Addr} {m : Str → Option Value} {s : Shared} {Q E : Value → Shared → Prop}
    (G : Gives w f d vs news R)
    (B : Below A₀ base outer h₀) (F : Fr h₀ L s.heap m) (X : (Mine.T.heap_1 w.params).In h₀) (N : News h₀ L s.heap news) (T : Top p loose mean mg mb h₀) (hk : cs.kind = .function)
    (hd : dp + d < recursionLimit) (hu : un + 8 * d < cLine)
    (hret : ∀ r h' tk', R r → Fr h₀ L h' m → News h₀ L h' news → Q r { s with heap := h', toks := tk' }) :
    wpAny (model PR w) (ktrTop dp un gd cn cs L a ccd cl outer) (call (.ref f) vs) Q E s :=
  G.run p loose mean mg mb dp un gd cn cs a ccd cl outer A₀ base h₀ L m s Q E B F X N T hk hd hu hret

inductive ViewIn (news : Led) (v : Addr) (cs : List Int) (p : Int) : Prop where
  | mk  (dx lc : Addr) (h1 h2 : Int) (k1 k2 t : Tok) (vs : List Value) (n : Nat) (q1 : (v, instObj 60 dx) ∈ news) (q2 : (dx, dictOf [⟨h1, .str (Str.ofString "codes") k1, .ref lc⟩, ⟨h2, .str (Str.ofString "place") k2, .int p t⟩] 2) ∈ news) (q3 : (lc, listOf vs.toArray n) ∈ news) (q4 : IntsAre vs cs) (q5 : cs.length ≤ 16) (q6 : 0 ≤ p) (q7 : p ≤ 100)
theorem ViewIn.mono {news news' : Led} {v : Addr} {cs : List Int} {p : Int} (h : ViewIn news v cs p) (hs : ∀ q ∈ news, q ∈ news') : ViewIn news' v cs p := by
  obtain ⟨dx, lc, h1, h2, k1, k2, t, vs, n, m1, m2, m3, r4, r5, r6, r7⟩ := h
  exact ⟨dx, lc, h1, h2, k1, k2, t, vs, n, hs _ m1, hs _ m2, hs _ m3, r4, r5, r6, r7⟩

noncomputable def codeR (cs : List Int) (i : Int) : Int := if 0 ≤ i ∧ i < cs.length then cs.getD i.toNat 0 else -1
theorem Gives.mono {w : World} {f : Addr} {d : Nat} {vs : List Value} {news : Led} {R R' : Value → Prop} (G : Gives w f d vs news R) (h : ∀ r, R r → R' r) : Gives w f d vs news R' :=
  ⟨fun p loose mean mg mb dp un gd cn cs a ccd cl outer A₀ base h₀ L m s Q E B F X N T hk hd hu hret =>
    G.run p loose mean mg mb dp un gd cn cs a ccd cl outer A₀ base h₀ L m s Q E B F X N T hk hd hu fun r h' tk' hr => hret r h' tk' (h r hr)⟩

theorem look_k {ps : List (Str × Value)} : (fun y => List.lookup y ps) = kstB (fun _ => none) ps := by
  induction ps with
  | nil => rfl
  | cons p r ih =>
    funext y
    obtain ⟨x, v⟩ := p
    show List.lookup y ((x, v) :: r) = if y = x then some v else kstB (fun _ => none) r y
    rw [List.lookup_cons, ← ih]
    by_cases h : y = x
    · subst h; simp
    · rw [if_neg h, beq_eq_false_iff_ne.mpr h]
theorem look_here {rest : Str → Option Value} {r : List (Str × Value)} {x : Str} {v : Value} : kstB rest ((x, v) :: r) x = some v := if_pos rfl
theorem look_next {rest : Str → Option Value} {r : List (Str × Value)} {x y : Str} {u : Value} (h : x ≠ y) : kstB rest ((y, u) :: r) x = kstB rest r x := if_neg h
theorem look_nil {rest : Str → Option Value} {x : Str} : kstB rest [] x = rest x := rfl
theorem look_ithere {x : Str} {v : Value} {o : Option Value} : (if x = x then some v else o) = some v := if_pos rfl
theorem look_itnext {x y : Str} {a o : Option Value} (h : x ≠ y) : (if x = y then a else o) = o := if_neg h
theorem look_off {st : List Str} {x : Str} {a o : Option Value} (h : st.contains x = false) : (if st.contains x = true then a else o) = o := by rw [h]; rfl
theorem code_defK {prog : Program} {w : World} {A A₀ : Around} {s : Shared} {K : Frag} {L : Addr} {h₀ base : Heap} {m mg mb : Str → Option Value} {news : List (Addr × Obj)} {p : Program} {loose : List Str} {mean : ExcName → Option Value} {env : Env} {outer : List Env} {R : Result → Shared → Prop} {name qual : Str} {params : Arguments} {body : List Stmt} {scope : Scope} {dV kV doc pm cdv ct oc : Value} {an od : Option Addr} {osl : Array (Option Value)} {f : Addr} {args : Args} (ps : List (Str × Value))
    (B : Below A₀ base outer h₀) (F : Fr h₀ L s.heap m) (X₀ : K.In h₀) (N : News h₀ L s.heap news) (T : Top p loose mean mg mb h₀) (hA : A.frames = some (env :: outer)) (hf : env.frame = some L) (hke : env.scope.kind = .function)
    (ho : K.lookup f = some ⟨oc, od, .func (fnOf name qual params body scope dV kV doc pm an cdv ct), osl⟩) (hcd : codeIn K cdv qual = true) (hroom : A.depth < recursionLimit)
    (hbind : BindsTo s (fnOf name qual params body scope dV kV doc pm an cdv ct) args ps.reverse) (hloc : ∀ y ∈ ps.reverse, scope.names.lookup y.1 = some .local)
    (h : ∀ g L' h₁, Fr h₀ L g m → Fr g L' h₁ (kstB (fun _ => none) ps) → News g L' h₁ news → Below A base (env :: outer) g → K.In g → Top p loose mean mg mb g →
      wpAny (model prog w) (A.deeper (envOf qual scope L' f cdv)) (execs body (envOf qual scope L' f cdv))
        (fun fl s' => LeaveK h₀ L m g R (match fl with | .ret v => v | _ => .none) s')
        (fun e s' => wpAny (model prog w) (A.deeper (envOf qual scope L' f cdv)) (leaving (envOf qual scope L' f cdv) e) (fun _ s'' => R (.error e) s'') (fun e' s'' => R (.error e') s'') s')
        { s with heap := h₁, toks := s.toks + ps.length })
    (hco : scope.isCoroutine = false) (hgen : scope.isGenerator = false) (hk : scope.kind = .function)
    (hcell : ∀ x ∈ scope.names, x.2 ≠ .cell) : codeAny (model prog w) A (.call (.ref f) args) R s :=
  code_def B F X₀ N T hA hf hke ho hcd hroom hbind hloc (fun g L' h₁ FG F' N' B' X' T' => by
    rw [List.reverse_reverse, look_k] at F'
    rw [List.length_reverse]
    exact h g L' h₁ FG F' N' B' X' T') hco hgen hk hcell

theorem ofs_inj {a b : String} (h : Str.ofString a = Str.ofString b) : a = b := by
  rw [Str.ofString_eq_toList, Str.ofString_eq_toList] at h
  have h2 : (a.toList.map Char.toNat).toArray = (b.toList.map Char.toNat).toArray := congrArg Str.cps h
  have h3 : a.toList.map Char.toNat = b.toList.map Char.toNat := by simpa using h2
  have h4 : a.toList = b.toList := by
    have inj : ∀ x y : Char, x.toNat = y.toNat → x = y := fun x y e => Char.ext (UInt32.toNat_inj.mp e)
    revert h3
    generalize a.toList = l
    generalize b.toList = k
    intro h3
    induction l generalizing k with
    | nil => cases k with
      | nil => rfl
      | cons _ _ => cases h3
    | cons x l ih => cases k with
      | nil => cases h3
      | cons y k =>
        simp only [List.map_cons, List.cons.injEq] at h3
        rw [inj _ _ h3.1, ih k h3.2]
  exact String.toList_inj.mp h4
theorem ofs_ne {a b : String} (h : a ≠ b) : Str.ofString a ≠ Str.ofString b := fun e => h (ofs_inj e)
theorem ofs_beq {a b : String} (h : a ≠ b) : (Str.ofString a == Str.ofString b) = false := beq_eq_false_iff_ne.mpr (ofs_ne h)
theorem kind_here {α : Type} {x : Str} {k : α} {r : List (Str × α)} : List.lookup x ((x, k) :: r) = some k := by rw [List.lookup_cons]; simp
theorem kind_next {α : Type} {x y : Str} {j : α} {r : List (Str × α)} (h : x ≠ y) : List.lookup x ((y, j) :: r) = List.lookup x r := by
  rw [List.lookup_cons, beq_eq_false_iff_ne.mpr h]
theorem look_offK {a x : Str} {l : List Str} (h : x ≠ a) (e : l.contains x = false) : (a :: l).contains x = false := by
  rw [List.contains_cons, e, Bool.or_false]
  exact beq_eq_false_iff_ne.mpr h
section
variable {M : Model} {A : Around} {E : Value → Shared → Prop} {s : Shared} {h₀ : Heap} {L a : Addr} {m mg mb : Str → Option Value} {cn : Str} {ccd : Value} {kk : ScopeKind} {ns : List (Str × NameKind)} {ig ic : Bool} {mo : List (Str × Const)} {x : String} {pos : Pos} {v : Value} {Q : Value → Shared → Prop}
theorem ldK (F : Fr h₀ L s.heap m) (hl : ns.lookup (Str.ofString x) = some .local) (hv : m (Str.ofString x) = some v) (hd : x ≠ "__debug__") (h : Q v s) :
    wpAny M A (eval (.Name (Str.ofString x) pos) (envOf cn { kind := .function, names := ns, isGenerator := ig, isCoroutine := ic, more := mo } L a ccd)) Q E s :=
  ld F hv h rfl hl (ofs_beq hd)
theorem nameK {K : Frag} {p : Program} {loose : List Str} {mean : ExcName → Option Value} (F : Fr h₀ L s.heap m) (X : K.In h₀) (T : Top p loose mean mg mb h₀) (hl : ns.lookup (Str.ofString x) = some .globalImplicit) (e : nsIn K mainGlobals (Str.ofString x) = some (some v)) (hd : x ≠ "__debug__") (h : Q v s) :
    wpAny M A (eval (.Name (Str.ofString x) pos) (envOf cn { kind := .function, names := ns, isGenerator := ig, isCoroutine := ic, more := mo } L a ccd)) Q E s :=
  name_K F X (topRead_of T) e h rfl hl (ofs_beq hd)
end
structure Ev (M : Model) (A : Around) (E : Value → Shared → Prop) (s : Shared) (env : Env) (e : Expr) (v : Value) : Prop where
  run : ∀ Q : Value → Shared → Prop, Q v s → wpAny M A (eval e env) Q E s
section
variable {M : Model} {A : Around} {E : Value → Shared → Prop} {s : Shared} {h₀ : Heap} {L a : Addr} {m mg mb : Str → Option Value} {cn : Str} {ccd : Value} {ns : List (Str × NameKind)} {ig ic : Bool} {mo : List (Str × Const)} {x : String} {pos : Pos} {v : Value}
theorem ev_ld (F : Fr h₀ L s.heap m) (hl : ns.lookup (Str.ofString x) = some .local) (hv : m (Str.ofString x) = some v) (hd : x ≠ "__debug__") :
    Ev M A E s (envOf cn { kind := .function, names := ns, isGenerator := ig, isCoroutine := ic, more := mo } L a ccd) (.Name (Str.ofString x) pos) v := ⟨fun _ h => ldK F hl hv hd h⟩
theorem ev_name {K : Frag} {p : Program} {loose : List Str} {mean : ExcName → Option Value} (F : Fr h₀ L s.heap m) (X : K.In h₀) (T : Top p loose mean mg mb h₀) (hl : ns.lookup (Str.ofString x) = some .globalImplicit) (e : nsIn K mainGlobals (Str.ofString x) = some (some v)) (hd : x ≠ "__debug__") :
    Ev M A E s (envOf cn { kind := .function, names := ns, isGenerator := ig, isCoroutine := ic, more := mo } L a ccd) (.Name (Str.ofString x) pos) v := ⟨fun _ h => nameK F X T hl e hd h⟩
end
section
variable {M : Model} {A : Around} {E : Value → Shared → Prop} {s : Shared} {env : Env} {x y z y4 : Str} {p p2 p3 p4 pos apos : Pos} {a b c d : Value}
theorem args_ev {rest : List Expr} {Q : List Value → Shared → Prop} (e : Ev M A E s env (.Name x p) a) (h : wpAny M A (spliced (backTo pos (starEach rest env))) (fun vs s₂ => Q (a :: vs) s₂) E s) : wpAny M A (spliced (backTo pos (starEach (.Name x p :: rest) env))) Q E s :=
  args_cons (e.run _ h)
theorem args_ev1 {Q : List Value → Shared → Prop} (e : Ev M A E s env (.Name x p) a) (h : Q [a] s) : wpAny M A (spliced (backTo pos (starEach [.Name x p] env))) Q E s :=
  args_ev e (args_nil h)
theorem args_ev2 {Q : List Value → Shared → Prop} (e : Ev M A E s env (.Name x p) a) (e2 : Ev M A E s env (.Name y p2) b) (h : Q [a, b] s) : wpAny M A (spliced (backTo pos (starEach [.Name x p, .Name y p2] env))) Q E s :=
  args_ev e (args_ev1 e2 h)
theorem args_ev3 {Q : List Value → Shared → Prop} (e : Ev M A E s env (.Name x p) a) (e2 : Ev M A E s env (.Name y p2) b) (e3 : Ev M A E s env (.Name z p3) c) (h : Q [a, b, c] s) : wpAny M A (spliced (backTo pos (starEach [.Name x p, .Name y p2, .Name z p3] env))) Q E s :=
  args_ev e (args_ev2 e2 e3 h)
theorem args_ev4 {Q : List Value → Shared → Prop} (e : Ev M A E s env (.Name x p) a) (e2 : Ev M A E s env (.Name y p2) b) (e3 : Ev M A E s env (.Name z p3) c) (e4 : Ev M A E s env (.Name y4 p4) d) (h : Q [a, b, c, d] s) : wpAny M A (spliced (backTo pos (starEach [.Name x p, .Name y p2, .Name z p3, .Name y4 p4] env))) Q E s :=
  args_ev e (args_ev3 e2 e3 e4 h)
theorem attr_ev {attr : Str} {Q : Value → Shared → Prop} (e : Ev M A E s env (.Name x p) a) (h : wpAny M A (getAttr a attr true) Q E s) : wpAny M A (eval (.Attribute (.Name x p) attr pos) env) Q E s :=
  Attribute_Name_ (e.run _ h)
theorem call_ev {args : List Expr} {Q : Value → Shared → Prop} (e : Ev M A E s env (.Name x p) a) (h : wpAny M A (callWith pos a [] (backTo pos (starEach args env)) []) Q E s)
    (he : eval (.Call (.Name x p) args [] pos) env = (do callWith pos (← eval (.Name x p) env) [] (backTo pos (starEach args env)) (backToKw pos (keywordEach [] env))) := by k_dflt rfl) : wpAny M A (eval (.Call (.Name x p) args [] pos) env) Q E s :=
  Call_ (e.run _ h) he
theorem method_ev {name : Str} {args : List Expr} {pl : Sem Bool} {Q : Value → Shared → Prop} (e : Ev M A E s env (.Name x p) a)
    (h : wpAny M A (getMethod a name pl) (fun fx s₂ => wpAny M A (callWith pos fx.1 fx.2 (backTo pos (starEach args env)) []) Q E s₂) E s)
    (he : eval (.Call (.Attribute (.Name x p) name apos) args [] pos) env = (do
      let ov ← eval (.Name x p) env
      standAt apos.atName
      let (f, first) ← holding [ov] (getMethod ov name pl)
      callWith pos f first (backTo pos (starEach args env)) []) := by k_dflt rfl) :
    wpAny M A (eval (.Call (.Attribute (.Name x p) name apos) args [] pos) env) Q E s := MethodCall_ (e.run _ h) he
theorem bin_ev {op : Operator} {r : Expr} {Q : Value → Shared → Prop} (e : Ev M A E s env (.Name x p) a) (h : wpAny M A (eval r env) (fun b s₂ => wpAny M A (binaryOp op a b) Q E s₂) E s) : wpAny M A (eval (.BinOp (.Name x p) op r pos) env) Q E s :=
  wpAny_BinOp (e.run _ h)
theorem bin_ev2 {op : Operator} {Q : Value → Shared → Prop} (e : Ev M A E s env (.Name x p) a) (e2 : Ev M A E s env (.Name y p2) b) (h : wpAny M A (binaryOp op a b) Q E s) : wpAny M A (eval (.BinOp (.Name x p) op (.Name y p2) pos) env) Q E s :=
  bin_ev e (e2.run _ h)
theorem cmp_ev {op : CmpOp} {r : Expr} {Q : Value → Shared → Prop} (e : Ev M A E s env (.Name x p) a) (h : wpAny M A (eval r env) (fun b s₂ => wpAny M A (compareOp op a b) Q E s₂) E s) (hm : behindInMarks op r = false := by with_unfolding_all rfl) : wpAny M A (eval (.Compare (.Name x p) [op] [r] pos) env) Q E s :=
  wpAny_Compare1 (e.run _ h) hm
theorem itc_ev {op : CmpOp} {r : Expr} {whole : Sem Value} {Q : Bool → Shared → Prop} (e : Ev M A E s env (.Name x p) a) (h : wpAny M A (eval r env) (fun b s₂ => wpAny M A (compareOp op a b) (fun c s₃ => wpAny M A (truthy c) Q E s₃) E s₂) E s) (hm : behindInMarks op r = false := by with_unfolding_all rfl) : wpAny M A (PySem.isTrue (.Compare (.Name x p) [op] [r] pos) env whole) Q E s :=
  wpAny_isTrue_Compare1 (e.run _ h) hm
theorem itc_ev2 {op : CmpOp} {whole : Sem Value} {Q : Bool → Shared → Prop} (e : Ev M A E s env (.Name x p) a) (e2 : Ev M A E s env (.Name y p2) b) (h : wpAny M A (compareOp op a b) (fun c s₃ => wpAny M A (truthy c) Q E s₃) E s) (hm : behindInMarks op (.Name y p2) = false := by with_unfolding_all rfl) : wpAny M A (PySem.isTrue (.Compare (.Name x p) [op] [.Name y p2] pos) env whole) Q E s :=
  itc_ev e (e2.run _ h) hm
theorem bin_ei {op : Operator} {i : Int} {k : Nat} {hp : Heap} {gs : Array GenState} {dr : Drawn} {tk : Nat} {os : OsState} {Q : Value → Shared → Prop} (e : Ev M A E ⟨hp, gs, dr, tk, os⟩ env (.Name x p) a) (h : wpAny M A (binaryOp op a (.int i tk)) Q E ⟨hp, gs, dr, tk + 1, os⟩) : wpAny M A (eval (.BinOp (.Name x p) op (.Constant (.int i) k p2) pos) env) Q E ⟨hp, gs, dr, tk, os⟩ :=
  bin_ev e (wpAny_Constant_int h)
theorem itc_ei {op : CmpOp} {i : Int} {k : Nat} {whole : Sem Value} {hp : Heap} {gs : Array GenState} {dr : Drawn} {tk : Nat} {os : OsState} {Q : Bool → Shared → Prop} (e : Ev M A E ⟨hp, gs, dr, tk, os⟩ env (.Name x p) a) (h : wpAny M A (compareOp op a (.int i tk)) (fun c s₃ => wpAny M A (truthy c) Q E s₃) E ⟨hp, gs, dr, tk + 1, os⟩) (hm : behindInMarks op (.Constant (.int i) k p2) = false := by with_unfolding_all rfl) :
    wpAny M A (PySem.isTrue (.Compare (.Name x p) [op] [.Constant (.int i) k p2] pos) env whole) Q E ⟨hp, gs, dr, tk, os⟩ :=
  itc_ev e (wpAny_Constant_int h) hm
theorem ret_ev {Q : Flow → Shared → Prop} (e : Ev M A E s env (.Name x p) a) (h : Q (.ret a) s) : wpAny M A (exec (.Return (some (.Name x p)) pos) env) Q E s :=
  wpAny_Return_some (e.run _ h)
end
theorem dec_pos {c : Prop} [Decidable c] {P Q : Prop} (h : c) (q : P) : if decide c = true then P else Q := by rw [if_pos (decide_eq_true h)]; exact q
theorem dec_neg {c : Prop} [Decidable c] {P Q : Prop} (h : ¬ c) (q : Q) : if decide c = true then P else Q := by rw [if_neg (by simpa using h)]; exact q
theorem ine_pos {x y : Int} {P Q : Prop} (h : x ≠ y) (q : P) : if (x != y) = true then P else Q := by rw [if_pos (by simpa using h)]; exact q
theorem ine_neg {x y : Int} {P Q : Prop} (h : x = y) (q : Q) : if (x != y) = true then P else Q := by rw [if_neg (by simpa using h)]; exact q
theorem ieq_pos {x y : Int} {P Q : Prop} (h : x = y) (q : P) : if (x == y) = true then P else Q := by rw [if_pos (by simpa using h)]; exact q
theorem ieq_neg {x y : Int} {P Q : Prop} (h : x ≠ y) (q : Q) : if (x == y) = true then P else Q := by rw [if_neg (by simpa using h)]; exact q
inductive IntR (x : Int) (r : Value) : Prop where
  | mk (t : Tok) (h : r = .int x t)
inductive IntRP (x : Int) (P : Prop) (r : Value) : Prop where
  | mk (t : Tok) (h : r = .int x t) (b : P)
theorem Gives.useM {w : World} {f : Addr} {d : Nat} {vs : List Value} {news : Led} {R : Value → Prop}
    {p : Program} {loose : List Str} {mean : ExcName → Option Value} {mg mb : Str → Option Value}
    {dp un : Nat} {gd : Option (List Code)} {cn : Str} {cs : Scope} {a : Addr} {ccd : Value} {cl : List (Str × Addr)} {outer : List Env}
    {A₀ : Around} {base h₀ : Heap} {L : Addr} {m : Str → Option Value} {hp : Heap} {gs : Array GenState} {dr : Drawn} {tk : Nat} {os : OsState} {Q E : Value → Shared → Prop}
    (G : Gives w f d vs news R)
    (B : Below A₀ base outer h₀) (F : Fr h₀ L hp m) (X : (Mine.T.heap_1 w.params).In h₀) (N : News h₀ L hp news) (T : Top p loose mean mg mb h₀) (hk : cs.kind = .function)
    (hd : dp + d < recursionLimit) (hu : un + 8 * d < cLine)
    (hret : ∀ r h' tk', R r → Fr h₀ L h' m → News h₀ L h' news → Q r ⟨h', gs, dr, tk', os⟩) :
    wpAny (model PR w) (ktrTop dp un gd cn cs L a ccd cl outer) (call (.ref f) vs) Q E ⟨hp, gs, dr, tk, os⟩ :=
  G.run p loose mean mg mb dp un gd cn cs a ccd cl outer A₀ base h₀ L m ⟨hp, gs, dr, tk, os⟩ Q E B F X N T hk hd hu hret
theorem Gives.useI {w : World} {f : Addr} {d : Nat} {vs : List Value} {news : Led} {x : Int}
    {p : Program} {loose : List Str} {mean : ExcName → Option Value} {mg mb : Str → Option Value}
    {dp un : Nat} {gd : Option (List Code)} {cn : Str} {cs : Scope} {a : Addr} {ccd : Value} {cl : List (Str × Addr)} {outer : List Env}
    {A₀ : Around} {base h₀ : Heap} {L : Addr} {m : Str → Option Value} {hp : Heap} {gs : Array GenState} {dr : Drawn} {tk : Nat} {os : OsState} {Q E : Value → Shared → Prop}
    (G : Gives w f d vs news (IntR x))
    (B : Below A₀ base outer h₀) (F : Fr h₀ L hp m) (X : (Mine.T.heap_1 w.params).In h₀) (N : News h₀ L hp news) (T : Top p loose mean mg mb h₀) (hk : cs.kind = .function)
    (hd : dp + d < recursionLimit) (hu : un + 8 * d < cLine)
    (hret : ∀ t h' tk', Fr h₀ L h' m → News h₀ L h' news → Q (.int x t) ⟨h', gs, dr, tk', os⟩) :
    wpAny (model PR w) (ktrTop dp un gd cn cs L a ccd cl outer) (call (.ref f) vs) Q E ⟨hp, gs, dr, tk, os⟩ :=
  G.run p loose mean mg mb dp un gd cn cs a ccd cl outer A₀ base h₀ L m ⟨hp, gs, dr, tk, os⟩ Q E B F X N T hk hd hu fun r h' tk' hr F' N' => by
    obtain ⟨t, rfl⟩ := hr
    exact hret t h' tk' F' N'
theorem Gives.useIP {w : World} {f : Addr} {d : Nat} {vs : List Value} {news : Led} {x : Int} {P : Prop}
    {p : Program} {loose : List Str} {mean : ExcName → Option Value} {mg mb : Str → Option Value}
    {dp un : Nat} {gd : Option (List Code)} {cn : Str} {cs : Scope} {a : Addr} {ccd : Value} {cl : List (Str × Addr)} {outer : List Env}
    {A₀ : Around} {base h₀ : Heap} {L : Addr} {m : Str → Option Value} {hp : Heap} {gs : Array GenState} {dr : Drawn} {tk : Nat} {os : OsState} {Q E : Value → Shared → Prop}
    (G : Gives w f d vs news (IntRP x P))
    (B : Below A₀ base outer h₀) (F : Fr h₀ L hp m) (X : (Mine.T.heap_1 w.params).In h₀) (N : News h₀ L hp news) (T : Top p loose mean mg mb h₀) (hk : cs.kind = .function)
    (hd : dp + d < recursionLimit) (hu : un + 8 * d < cLine)
    (hret : ∀ t h' tk', P → Fr h₀ L h' m → News h₀ L h' news → Q (.int x t) ⟨h', gs, dr, tk', os⟩) :
    wpAny (model PR w) (ktrTop dp un gd cn cs L a ccd cl outer) (call (.ref f) vs) Q E ⟨hp, gs, dr, tk, os⟩ :=
  G.run p loose mean mg mb dp un gd cn cs a ccd cl outer A₀ base h₀ L m ⟨hp, gs, dr, tk, os⟩ Q E B F X N T hk hd hu fun r h' tk' hr F' N' => by
    obtain ⟨t, rfl, b⟩ := hr
    exact hret t h' tk' b F' N'
noncomputable abbrev tupO (l : List Value) : Obj := { cls := .type "tuple", data := .seq l.toArray }
structure GivesU (w : World) (f : Addr) (d : Nat) (vs : List Value) (news : Led) (R : Value → Led → Prop) : Prop where
  run : ∀ (p : Program) (loose : List Str) (mean : ExcName → Option Value) (mg mb : Str → Option Value)
    (dp un : Nat) (gd : Option (List Code)) (cn : Str) (cs : Scope) (a : Addr) (ccd : Value) (cl : List (Str × Addr)) (outer : List Env)
    (A₀ : Around) (base h₀ : Heap) (L : Addr) (m : Str → Option Value) (s : Shared) (Q E : Value → Shared → Prop),
    Below A₀ base outer h₀ → Fr h₀ L s.heap m → (Mine.T.heap_1 w.params).In h₀ → News h₀ L s.heap news → Top p loose mean mg mb h₀ → cs.kind = .function →
    dp + d < recursionLimit → un + 8 * d < cLine →
    (∀ r news' h' tk', R r news' → Fr h₀ L h' m → News h₀ L h' news' → Q r { s with heap := h', toks := tk' }) →
    wpAny (model PR w) (ktrTop dp un gd cn cs L a ccd cl outer) (call (.ref f) vs) Q E s
theorem GivesU.use {w : World} {f : Addr} {d : Nat} {vs : List Value} {news : Led} {R : Value → Led → Prop}
    {p : Program} {loose : List Str} {mean : ExcName → Option Value} {mg mb : Str → Option Value}
    {dp un : Nat} {gd : Option (List Code)} {cn : Str} {cs : Scope} {a : Addr} {ccd : Value} {cl : List (Str × Addr)} {outer : List Env}
    {A₀ : Around} {base h₀ : Heap} {L : Addr} {m : Str → Option Value} {s : Shared} {Q E : Value → Shared → Prop}
    (G : GivesU w f d vs news R)
    (B : Below A₀ base outer h₀) (F : Fr h₀ L s.heap m) (X : (Mine.T.heap_1 w.params).In h₀) (N : News h₀ L s.heap news) (T : Top p loose mean mg mb h₀) (hk : cs.kind = .function)
    (hd : dp + d < recursionLimit) (hu : un + 8 * d < cLine)
    (hret : ∀ r news' h' tk', R r news' → Fr h₀ L h' m → News h₀ L h' news' → Q r { s with heap := h', toks := tk' }) :
    wpAny (model PR w) (ktrTop dp un gd cn cs L a ccd cl outer) (call (.ref f) vs) Q E s :=
  G.run p loose mean mg mb dp un gd cn cs a ccd cl outer A₀ base h₀ L m s Q E B F X N T hk hd hu hret
theorem GivesU.useM {w : World} {f : Addr} {d : Nat} {vs : List Value} {news : Led} {R : Value → Led → Prop}
    {p : Program} {loose : List Str} {mean : ExcName → Option Value} {mg mb : Str → Option Value}
    {dp un : Nat} {gd : Option (List Code)} {cn : Str} {cs : Scope} {a : Addr} {ccd : Value} {cl : List (Str × Addr)} {outer : List Env}
    {A₀ : Around} {base h₀ : Heap} {L : Addr} {m : Str → Option Value} {hp : Heap} {gs : Array GenState} {dr : Drawn} {tk : Nat} {os : OsState} {Q E : Value → Shared → Prop}
    (G : GivesU w f d vs news R)
    (B : Below A₀ base outer h₀) (F : Fr h₀ L hp m) (X : (Mine.T.heap_1 w.params).In h₀) (N : News h₀ L hp news) (T : Top p loose mean mg mb h₀) (hk : cs.kind = .function)
    (hd : dp + d < recursionLimit) (hu : un + 8 * d < cLine)
    (hret : ∀ r news' h' tk', R r news' → Fr h₀ L h' m → News h₀ L h' news' → Q r ⟨h', gs, dr, tk', os⟩) :
    wpAny (model PR w) (ktrTop dp un gd cn cs L a ccd cl outer) (call (.ref f) vs) Q E ⟨hp, gs, dr, tk, os⟩ :=
  G.run p loose mean mg mb dp un gd cn cs a ccd cl outer A₀ base h₀ L m ⟨hp, gs, dr, tk, os⟩ Q E B F X N T hk hd hu hret
theorem tn_b0 {p y : Int} : y - 1 - p < y - p := Int.sub_lt_sub_right (Int.sub_lt_self y (by decide)) p
theorem tn_a {n y : Int} (h : y < n) : (n - (y + 1)).toNat < (n - y).toNat := (Int.toNat_lt_toNat (Int.sub_pos_of_lt h)).mpr (Int.sub_lt_sub_left (Int.lt_succ y) n)
theorem tn_b {p y : Int} (h : p < y) : (y - 1 - p).toNat < (y - p).toNat := (Int.toNat_lt_toNat (Int.sub_pos_of_lt h)).mpr tn_b0
theorem tn_c {c : Int} (h : 0 < c) : (c - 1).toNat < c.toNat := (Int.toNat_lt_toNat h).mpr (Int.sub_lt_self c (by decide))
theorem tn_d {c : Int} (h : c < 0) : (-(c + 1)).toNat < (-c).toNat := (Int.toNat_lt_toNat (Int.neg_pos_of_neg h)).mpr (Int.neg_lt_neg (Int.lt_succ c))
theorem rel_natP {p x : Int} (_ : p < x) : (x - 1 - p).toNat = (x - p).toNat - 1 := by rw [Int.sub_sub, Int.add_comm, ← Int.sub_sub]; exact Int.pred_toNat _
theorem tn_s {p x : Int} (h : p < x) : (x - p).toNat = (x - 1 - p).toNat + 1 := by rw [rel_natP h]; exact (Nat.sub_add_cancel (Int.lt_toNat.mpr (Int.sub_pos_of_lt h))).symm
theorem tn_t {p x : Int} (h : p ≤ x) : (x + 1 - p).toNat = (x - p).toNat + 1 := by rw [tn_s (Int.lt_add_one_of_le h), Int.add_sub_cancel]
theorem tn_e {p y : Int} (h : p ≤ y) : y = p + ((y - p).toNat : Int) := by rw [Int.toNat_of_nonneg (Int.sub_nonneg_of_le h), Int.add_comm, Int.sub_add_cancel]
theorem tn_f {p y : Int} (h : p ≤ y) : y + 1 = p + (((y - p).toNat + 1 : Nat) : Int) := (congrArg (· + 1) (tn_e h)).trans (Int.add_assoc _ _ _)
theorem tn_i {p y : Int} (h : p < y) : p ≤ y - 1 := Int.le_sub_one_of_lt h
theorem tn_g {p y : Int} (h : p < y) : y - 1 = p + ((y - 1 - p).toNat : Int) := tn_e (tn_i h)
theorem tn_h {x p : Int} {n : Nat} (h : x ≤ p + n) : (x - p).toNat ≤ n := Int.toNat_le.mpr (Int.sub_left_le_of_le_add h)
theorem tn_j {p y : Int} (h : p < y) : p + 1 ≤ y := h
theorem tn_k {p y : Int} (h : p ≤ y) : p ≤ y + 1 := Int.le_add_one h
theorem tn_l {p y : Int} (h : p ≤ y) : p - 1 ≤ y := Int.le_trans (Int.sub_le_self p (by decide)) h
theorem tn_m {p y : Int} (h : p ≤ y) : p - 1 < y := Int.sub_one_lt_iff.mpr h
theorem tn_n {p y : Int} (h : ¬ p ≤ y) : y < p := Int.not_le.mp h
theorem tn_o {p y : Int} (h : ¬ p < y) : y ≤ p := Int.not_lt.mp h
theorem rm_a {a c d D : Nat} (h : a + 8 * D < c) (e : Nat.ble (3 + 8 * d) (8 * D) = true) : a + 3 + 8 * d < c := Nat.lt_of_le_of_lt (by rw [Nat.add_assoc]; exact Nat.add_le_add_left (Nat.le_of_ble_eq_true e) a) h
theorem rm_b {a c d D : Nat} (h : a + D < c) (e : Nat.ble (1 + d) D = true) : a + 1 + d < c := Nat.lt_of_le_of_lt (by rw [Nat.add_assoc]; exact Nat.add_le_add_left (Nat.le_of_ble_eq_true e) a) h
theorem rm_c {a c D : Nat} (h : a + D < c) : a < c := Nat.lt_of_le_of_lt (Nat.le_add_right a D) h
theorem rm_d {a D : Nat} (h : a + D < recursionLimit) : a < 1000 := rm_c h
theorem rel_nat {p : Int} {k : Nat} : (p + (k : Int) - p).toNat = k := by rw [Int.add_comm, Int.add_sub_cancel]; rfl
theorem rel_nat1 {p : Int} {k : Nat} : (p + (k : Int) + 1 - p).toNat = k + 1 := by rw [Int.add_assoc, Int.add_comm, Int.add_sub_cancel]; rfl
theorem tp_a {p x : Int} {j : Nat} {n : Nat} (h : j ≤ (x - p).toNat) (k : x ≤ p + (n : Int)) : p + (j : Int) ≤ p + (n : Int) := Int.add_le_add_left (Int.ofNat_le.mpr (Nat.le_trans h (tn_h k))) p
theorem tp_b {p : Int} {j n : Nat} (h : j ≤ n) : p + (j : Int) ≤ p + (n : Int) := Int.add_le_add_left (Int.ofNat_le.mpr h) p
theorem tp_c {p : Int} {j n : Nat} (h : p + (n : Int) ≤ p + (j : Int)) : n ≤ j := Int.ofNat_le.mp (Int.le_of_add_le_add_left h)
theorem tp_d {p : Int} {j n : Nat} (h : ¬ p + (n : Int) ≤ p + (j : Int)) : j < n := Nat.not_le.mp fun k => h (tp_b k)
theorem tp_e {p x : Int} {n : Nat} (h : p ≤ x) (k : x < p + (n : Int)) : (x - p).toNat < n := (Int.toNat_lt (Int.sub_nonneg_of_le h)).mpr (Int.sub_left_lt_of_lt_add k)
theorem tp_f {p x : Int} {n : Nat} (h : p + (n : Int) ≤ x) : ¬ (x - p).toNat < n := fun k => absurd (Int.lt_of_lt_of_le (Int.lt_of_toNat_lt k) (Int.le_sub_left_of_add_le h)) (Int.lt_irrefl _)
theorem tp_g {p x : Int} (h : x ≤ p) : (x - p).toNat = 0 := Int.toNat_eq_zero.mpr (Int.sub_nonpos_of_le h)
theorem tp_h {p x : Int} (h : p < x) : 0 < (x - p).toNat := Int.lt_toNat.mpr (Int.sub_pos_of_lt h)
theorem tp_i {p x : Int} {j : Nat} (h : p ≤ x) (k : j ≤ (x - p).toNat) : p + (j : Int) ≤ x := by
  rw [tn_e h]
  exact tp_b k
theorem tp_j {p x : Int} {j : Nat} : (x - (p + (j : Int))).toNat = (x - p).toNat - j := by rw [← Int.sub_sub]; exact Int.toNat_sub' _ _
theorem tp_a1 {p y : Int} {j n : Nat} (h : j ≤ (y - 1 - p).toNat) (k : y ≤ p + (n : Int)) : p + (j : Int) ≤ p + (n : Int) := tp_a h (Int.le_trans (Int.sub_le_self y (by decide)) k)
theorem tp_k {p y : Int} {a : Nat} (h : p ≤ y) (k : a ≤ (y - p).toNat + 1) : a ≤ (y + 1 - p).toNat := (tn_t h).symm ▸ k
theorem tp_l {p x y : Int} {n : Nat} (h1 : x ≤ p + (n : Int)) (h2 : n ≤ 16) (h3 : y < x) : (y - p).toNat ≤ 16 := Nat.le_trans (tn_h (Int.le_of_lt (Int.lt_of_lt_of_le h3 h1))) h2
theorem tp_m {p x : Int} (h : ¬ x ≤ p) : x = p + (((x - 1 - p).toNat + 1 : Nat) : Int) := (tn_e (Int.le_of_lt (Int.not_le.mp h))).trans (by rw [tn_s (Int.not_le.mp h)])
theorem tp_n {p x : Int} (h : p < x) : x = p + (((x - 1 - p).toNat + 1 : Nat) : Int) := tp_m (Int.not_le.mpr h)
theorem tp_o {p x : Int} (h : p ≤ x) (k : x ≤ p) : x = p + ((0 : Nat) : Int) := (Int.le_antisymm k h).trans (Int.add_zero p).symm
theorem tp_p {p x : Int} {j n : Nat} (h1 : x ≤ p + (n : Int)) (h2 : n ≤ 16) (h3 : p ≤ 100) (h4 : j ≤ (x - p).toNat) : p + (j : Int) < 2 ^ 62 := Int.lt_of_le_of_lt (Int.add_le_add h3 (Int.ofNat_le.mpr (Nat.le_trans h4 (Nat.le_trans (tn_h h1) h2)))) (by decide)
theorem tp_q {p x : Int} {n : Nat} (h1 : x ≤ p + (n : Int)) (h2 : n ≤ 16) (h3 : p ≤ 100) : x < 2 ^ 62 := Int.lt_of_le_of_lt (Int.le_trans h1 (Int.add_le_add h3 (Int.ofNat_le.mpr h2))) (by decide)
theorem tp_r {p x : Int} (h : 0 ≤ p) (k : p ≤ x) : -2 ^ 62 ≤ x := Int.le_trans (by decide) (Int.le_trans h k)
theorem tp_s {p : Int} {j : Nat} (h : 0 ≤ p) : -2 ^ 62 ≤ p + (j : Int) := tp_r h (Int.le_add_of_nonneg_right (Int.natCast_nonneg j))
theorem tp_t {p x : Int} {n : Nat} (h : p ≤ x) (k : x < p + (n : Int)) : 0 ≤ x - p ∧ x - p < (n : Int) := ⟨Int.sub_nonneg_of_le h, Int.sub_left_lt_of_lt_add k⟩
theorem tp_u {p : Int} {j : Nat} (h : p + (j : Int) ≤ p) : j = 0 := Nat.le_zero.mp (tp_c (p := p) (n := j) (j := 0) (Int.le_trans h (Int.le_of_eq (Int.add_zero p).symm)))
theorem tp_v {p : Int} {j n : Nat} (h : p + (j : Int) < p + (n : Int)) : j < n := Int.ofNat_lt.mp (Int.lt_of_add_lt_add_left h)
theorem tp_w {d : Int} (h : d ≤ 0) (k : ¬ d < 0) : d = 0 := Int.le_antisymm h (Int.not_lt.mp k)
theorem tp_x {a k : Nat} (h : a ≤ k) (e : k ≤ 16) : a ≤ 16777216 := Nat.le_trans (Nat.le_trans h e) (by decide)
theorem tp_y {p : Int} {a b : Nat} : p + (a : Int) + (b : Int) - p = ((a + b : Nat) : Int) := by rw [Int.add_assoc, Int.add_comm, Int.add_sub_cancel]; rfl
theorem tp_z {y v : Int} {n : Nat} (h : y ≤ 10 * (n : Int)) (k : v ≤ 10) : y + v ≤ 10 * ((n + 1 : Nat) : Int) := Int.le_trans (Int.add_le_add h k) (Int.le_of_eq (Int.mul_add 10 (n : Int) 1).symm)
theorem rm_e {a c d D : Nat} (h : a + D < c) (e : Nat.ble d D = true) : a + d < c := Nat.lt_of_le_of_lt (Nat.add_le_add_left (Nat.le_of_ble_eq_true e) a) h
theorem tq_a {c : Prop} [Decidable c] {p y g z : Int} (hc : c) (h : p ≤ y) (e : z = y) : z = p + (((if c then y else g) - p).toNat : Int) := by rw [if_pos hc, e]; exact tn_e h
theorem tq_b {c : Prop} [Decidable c] {p y g z : Int} (hc : ¬ c) (h : p ≤ g) (e : z = g) : z = p + (((if c then y else g) - p).toNat : Int) := by rw [if_neg hc, e]; exact tn_e h
theorem tr_a {n : Nat} (h : n ≤ 16) : n < 2 ^ 62 := Nat.lt_of_le_of_lt h (by decide)
theorem tr_b {n : Nat} (h : n ≤ 16) : (n : Int) < 2 ^ 63 := Int.lt_of_le_of_lt (Int.ofNat_le.mpr h) (by decide)
inductive A2 (p0 p1 : Prop) : Prop where
  | mk (q0 : p0) (q1 : p1)
inductive A3 (p0 p1 p2 : Prop) : Prop where
  | mk (q0 : p0) (q1 : p1) (q2 : p2)
inductive A4 (p0 p1 p2 p3 : Prop) : Prop where
  | mk (q0 : p0) (q1 : p1) (q2 : p2) (q3 : p3)
inductive A5 (p0 p1 p2 p3 p4 : Prop) : Prop where
  | mk (q0 : p0) (q1 : p1) (q2 : p2) (q3 : p3) (q4 : p4)
inductive A6 (p0 p1 p2 p3 p4 p5 : Prop) : Prop where
  | mk (q0 : p0) (q1 : p1) (q2 : p2) (q3 : p3) (q4 : p4) (q5 : p5)
inductive A7 (p0 p1 p2 p3 p4 p5 p6 : Prop) : Prop where
  | mk (q0 : p0) (q1 : p1) (q2 : p2) (q3 : p3) (q4 : p4) (q5 : p5) (q6 : p6)
inductive A8 (p0 p1 p2 p3 p4 p5 p6 p7 : Prop) : Prop where
  | mk (q0 : p0) (q1 : p1) (q2 : p2) (q3 : p3) (q4 : p4) (q5 : p5) (q6 : p6) (q7 : p7)

local macro_rules | `(tactic| omega) => `(tactic| first | k_extra "m_om" | omega (config := {}))
theorem om_rows : True := by
  k_with "m_om" => (with_reducible first | decide | assumption | ((show @LT.lt Nat _ _ _); first | exact rm_a ‹_› rfl | exact rm_b ‹_› rfl | exact rm_c ‹_› | exact rm_d ‹_› | exact tn_a ‹_› | exact tn_b ‹_› | exact tn_c ‹_› | exact tn_d ‹_› | exact rm_e ‹_› rfl | exact tp_d ‹_› | exact tp_e ‹_› ‹_› | exact tp_h ‹_› | exact tp_v ‹_› | exact tr_a ‹_›) | ((show @LE.le Nat _ _ _); first | exact tn_h ‹_› | exact tp_c ‹_› | exact tp_k ‹_› ‹_› | exact tp_l ‹_› ‹_› ‹_› | exact tp_x ‹_› ‹_› | exact Nat.le_trans ‹_› ‹_›) | ((show @LT.lt Int _ _ _); first | exact tn_m ‹_› | exact tn_n ‹_› | exact tp_p ‹_› ‹_› ‹_› ‹_› | exact tp_q ‹_› ‹_› ‹_› | exact Int.lt_of_toNat_lt ‹_› | exact Int.lt_of_lt_of_le ‹_› ‹_› | exact Int.sub_left_lt_of_lt_add ‹_› | exact tr_b ‹_›) | ((show @LE.le Int _ _ _); first | exact tn_i ‹_› | exact tn_j ‹_› | exact tn_k ‹_› | exact tn_l ‹_› | exact tn_o ‹_› | exact tp_i ‹_› ‹_› | exact tp_a ‹_› ‹_› | exact tp_a1 ‹_› ‹_› | exact tp_b ‹_› | exact tp_r ‹_› ‹_› | exact tp_s ‹_› | exact Int.le_of_lt (Int.not_le.mp ‹_›) | exact Int.sub_nonneg_of_le ‹_› | exact Int.sub_nonneg_of_le (tn_i ‹_›) | exact Int.le_add_of_nonneg_right (Int.natCast_nonneg _)) | ((show @Eq Nat _ _); first | exact tn_s ‹_› | exact tn_t ‹_› | exact (tn_s ‹_›).symm | exact tp_g ‹_› | exact tn_s (Int.not_le.mp ‹_›) | exact tp_u ‹_› | exact tp_j) | ((show @Eq Int _ _); first | exact tn_e ‹_› | exact tn_f ‹_› | exact tn_g ‹_› | exact tp_m ‹_› | exact tp_n ‹_› | exact tp_o ‹_› ‹_› | exact tp_w ‹_› ‹_› | exact tp_y) | exact tp_f ‹_› ‹_› | exact tp_f ‹_› | exact tp_f (Int.not_lt.mp ‹_›) | exact tp_t ‹_› ‹_› | exact Nat.ne_of_gt ‹_› | exact Nat.ne_of_lt ‹_› | exact Nat.ne_of_gt (Nat.lt_trans ‹_› ‹_›))
  trivial
noncomputable def lineS (cs : List Int) : Nat → Nat
  | 0 => 0
  | i + 1 => if cs.getD i 0 = 10 then i + 1 else lineS cs i
theorem lineS_le (cs : List Int) : ∀ i, lineS cs i ≤ i
  | 0 => Nat.le_refl _
  | i + 1 => by
    unfold lineS
    split
    · exact Nat.le_refl _
    · exact Nat.le_succ_of_le (lineS_le cs i)
noncomputable def lineE (cs : List Int) (i : Nat) : Nat := if i < cs.length ∧ cs.getD i 0 ≠ 10 then lineE cs (i + 1) else i
termination_by cs.length - i
theorem lineE_ge (cs : List Int) (i : Nat) : i ≤ lineE cs i := by
  induction i using lineE.induct cs with
  | case1 i h ih => rw [lineE, if_pos h]; omega
  | case2 i h => rw [lineE, if_neg h]; exact Nat.le_refl _
theorem lineE_le (cs : List Int) (i : Nat) (h : i ≤ cs.length) : lineE cs i ≤ cs.length := by
  induction i using lineE.induct cs with
  | case1 i hi ih => rw [lineE, if_pos hi]; exact ih (by omega)
  | case2 i hi => rw [lineE, if_neg hi]; exact h
theorem codeR_in {cs : List Int} {i : Int} (h0 : 0 ≤ i) (h1 : i < cs.length) : codeR cs i = cs.getD i.toNat 0 := if_pos ⟨h0, h1⟩
theorem codeR_out {cs : List Int} {i : Int} (h : i < 0 ∨ (cs.length : Int) ≤ i) : codeR cs i = -1 := if_neg (by omega)
theorem lineS_step {cs : List Int} {x p : Int} (h0 : p < x) (h1 : x ≤ p + cs.length) (h : ¬ codeR cs (x - 1 - p) = 10) : lineS cs (x - p).toNat = lineS cs (x - 1 - p).toNat := by
  have e : (x - p).toNat = (x - 1 - p).toNat + 1 := by omega
  rw [codeR_in (by omega) (by omega)] at h
  rw [e]
  show (if cs.getD (x - 1 - p).toNat 0 = 10 then _ else _) = _
  rw [if_neg h]
theorem lineS_stop {cs : List Int} {x p : Int} (h0 : p ≤ x) (h1 : x ≤ p + cs.length) (h : x ≤ p ∨ codeR cs (x - 1 - p) = 10) : x = p + lineS cs (x - p).toNat := by
  by_cases hx : x ≤ p
  · have e : (x - p).toNat = 0 := by omega
    rw [e]
    show x = p + ((0 : Nat) : Int)
    omega
  · have e : (x - p).toNat = (x - 1 - p).toNat + 1 := by omega
    have hc := h.resolve_left hx
    rw [codeR_in (by omega) (by omega)] at hc
    have : lineS cs ((x - 1 - p).toNat + 1) = (x - 1 - p).toNat + 1 := by
      show (if cs.getD (x - 1 - p).toNat 0 = 10 then _ else _) = _
      rw [if_pos hc]
    rw [e, this]
    omega
theorem lineE_step {cs : List Int} {x p : Int} (h0 : p ≤ x) (h1 : x < p + cs.length) (h : ¬ codeR cs (x - p) = 10) : lineE cs (x - p).toNat = lineE cs (x + 1 - p).toNat := by
  have e : (x + 1 - p).toNat = (x - p).toNat + 1 := by omega
  rw [codeR_in (by omega) (by omega)] at h
  rw [e, lineE, if_pos ⟨by omega, h⟩]
theorem lineE_stop {cs : List Int} {x p : Int} (h0 : p ≤ x) (h1 : x ≤ p + cs.length) (h : p + cs.length ≤ x ∨ codeR cs (x - p) = 10) : x = p + lineE cs (x - p).toNat := by
  rw [lineE, if_neg]
  · omega
  · rintro ⟨a, b⟩
    rcases h with h | h
    · omega
    · rw [codeR_in (by omega) (by omega)] at h
      exact b h
noncomputable def upT (cs : List Int) (i : Nat) (many : Int) : Nat × Int := if many < 0 ∧ 0 < i then upT cs (lineS cs (i - 1)) (many + 1) else (i, many)
termination_by (-many).toNat
noncomputable def downT (cs : List Int) (i : Nat) (many : Int) : Nat × Int :=
  if 0 < many then (if lineE cs i < cs.length then downT cs (lineE cs i + 1) (many - 1) else (cs.length, many - (if i < cs.length then 1 else 0))) else (i, 0)
termination_by many.toNat
noncomputable def linesT (cs : List Int) (i : Nat) (many : Int) : Nat × Int := if many ≤ 0 then upT cs (lineS cs i) many else downT cs i many
noncomputable def widthAt (code column width : Int) : Int := if code = 9 then width - column.fmod width else if code < 32 ∨ code = 127 then 2 else if 127 < code ∧ code < 160 then 4 else 1
noncomputable def colK (cs : List Int) (a : Nat) (k : Nat) : Int := (List.range k).foldl (fun c j => c + widthAt (codeR cs (a + j : Nat)) c 8) 0
noncomputable def colF (cs : List Int) (i : Nat) : Int := colK cs (lineS cs i) (i - lineS cs i)
theorem colK_succ (cs : List Int) (a k : Nat) : colK cs a (k + 1) = colK cs a k + widthAt (codeR cs (a + k : Nat)) (colK cs a k) 8 := by
  unfold colK
  rw [List.range_succ, List.foldl_append]
  rfl

inductive Kd where
  | w | u | b | o | c
deriving DecidableEq
noncomputable def Kd.str : Kd → Str
  | .w => Str.ofString "w"
  | .u => Str.ofString "_"
  | .b => Str.ofString " "
  | .o => Str.ofString "("
  | .c => Str.ofString ")"
noncomputable def kdOf (x : Int) : Kd := if x = 97 ∨ x = 98 then .w else if x = 95 then .u else if x = 40 then .o else if x = 41 then .c else .b
def Sgn (x : Int) : Prop := x = 97 ∨ x = 98 ∨ x = 95 ∨ x = 32 ∨ x = 10 ∨ x = 9 ∨ x = 40 ∨ x = 41
inductive SynIn (news : Led) (a : Addr) (k : Kd) : Prop where
  | mk  (dx : Addr) (h1 h2 h3 : Int) (k1 k2 k3 t1 t3 : Tok) (mv : Value) (q1 : (a, instObj 235 dx) ∈ news) (q2 : (dx, dictOf [⟨h1, .str (Str.ofString "kind") k1, .str k.str t1⟩, ⟨h2, .str (Str.ofString "match") k2, mv⟩, ⟨h3, .str (Str.ofString "flags") k3, .str (Str.ofString "") t3⟩] 3) ∈ news)
theorem SynIn.mono {news news' : Led} {a : Addr} {k : Kd} (h : SynIn news a k) (hs : ∀ q ∈ news, q ∈ news') : SynIn news' a k := by
  obtain ⟨dx, h1, h2, h3, k1, k2, k3, t1, t3, mv, m1, m2⟩ := h
  exact ⟨dx, h1, h2, h3, k1, k2, k3, t1, t3, mv, hs _ m1, hs _ m2⟩
noncomputable def tabKv (syn : Kd → Addr) : List (Int × Value) := [(97, .ref (syn .w)), (98, .ref (syn .w)), (95, .ref (syn .u)), (32, .ref (syn .b)), (10, .ref (syn .b)), (9, .ref (syn .b)), (40, .ref (syn .o)), (41, .ref (syn .c))]
theorem tabKv_at {syn : Kd → Addr} {x : Int} (h : Sgn x) : valueAt (tabKv syn) x = some (.ref (syn (kdOf x))) := by
  rcases h with h | h | h | h | h | h | h | h <;> subst h <;> rfl
inductive TableIn (w : World) (news : Led) (tb : Addr) (syn : Kd → Addr) : Prop where
  | mk  (td rd : Addr) (o : Obj) (h1 h2 : Int) (k1 k2 : Tok) (q1 : (tb, instObj 316 td) ∈ news) (q2 : (td, dictOf [⟨h1, .str (Str.ofString "parent") k1, .none⟩, ⟨h2, .str (Str.ofString "rows") k2, .ref rd⟩] 2) ∈ news) (q3 : (rd, o) ∈ news) (q4 : o.IsDictOf (PySem.intKind PR w) (tabKv syn)) (q5 : (rd == sysModules) = false) (q6 : ∀ k, SynIn news (syn k) k)
theorem TableIn.mono {w : World} {news news' : Led} {tb : Addr} {syn : Kd → Addr} (h : TableIn w news tb syn) (hs : ∀ q ∈ news, q ∈ news') : TableIn w news' tb syn := by
  obtain ⟨td, rd, o, h1, h2, k1, k2, m1, m2, m3, hd, lo, hy⟩ := h
  exact ⟨td, rd, o, h1, h2, k1, k2, hs _ m1, hs _ m2, hs _ m3, hd, lo, fun k => (hy k).mono hs⟩
def Sgns (cs : List Int) : Prop := ∀ x ∈ cs, Sgn x
theorem Sgns.at {cs : List Int} (h : Sgns cs) {i : Int} (h0 : 0 ≤ i) (h1 : i < cs.length) : Sgn (codeR cs i) := by
  unfold codeR
  rw [if_pos ⟨h0, h1⟩, List.getD_eq_getElem?_getD, List.getElem?_eq_getElem (by omega), Option.getD_some]
  exact h _ (List.getElem_mem _)
theorem Sgn.pos {x : Int} (h : Sgn x) : 0 ≤ x ∧ x ≤ 127 := by
  rcases h with h | h | h | h | h | h | h | h <;> subst h <;> decide
section
variable {prog : Program} {w : World} {A : Around} {E : Value → Shared → Prop} {s : Shared}
theorem eq_kd {k : Kd} {x : Str} {t u : Tok} {b : Bool} {Q : Value → Shared → Prop} (hb : (k.str == x) = b) (h : Q (.bool b) s) : wpAny (model prog w) A (compareOp .Eq (.str k.str t) (.str x u)) Q E s :=
  PyProof.Rows.eq_str (by rw [hb]; exact h)
theorem ne_kd {k : Kd} {x : Str} {t u : Tok} {b : Bool} {Q : Value → Shared → Prop} (hb : (k.str != x) = b) (h : Q (.bool b) s) : wpAny (model prog w) A (compareOp .NotEq (.str k.str t) (.str x u)) Q E s :=
  PyProof.Rows.ne_str (by rw [hb]; exact h)
end
theorem kd_w (k : Kd) : (k.str == Str.ofString "w") = decide (k = .w) := by cases k <;> decide
theorem kd_u (k : Kd) : (k.str == Str.ofString "_") = decide (k = .u) := by cases k <;> decide
theorem kd_o (k : Kd) : (k.str == Str.ofString "(") = decide (k = .o) := by cases k <;> decide
theorem kd_c (k : Kd) : (k.str == Str.ofString ")") = decide (k = .c) := by cases k <;> decide
theorem kd_n1 (k : Kd) : (k.str == Str.ofString "@") = false := by cases k <;> decide +kernel
theorem kd_n2 (k : Kd) : (k.str == Str.ofString "\\") = false := by cases k <;> decide +kernel
theorem kd_n3 (k : Kd) : (k.str == Str.ofString "/") = false := by cases k <;> decide +kernel
theorem kd_n4 (k : Kd) : (k.str == Str.ofString "<") = false := by cases k <;> decide +kernel
theorem kd_n5 (k : Kd) : (k.str == Str.ofString "!") = false := by cases k <;> decide +kernel
theorem kd_n6 (k : Kd) : (k.str == Str.ofString "\"") = false := by cases k <;> decide +kernel
theorem kd_n7 (k : Kd) : (k.str == Str.ofString "|") = false := by cases k <;> decide +kernel
theorem kd_n8 (k : Kd) : (k.str == Str.ofString "$") = false := by cases k <;> decide +kernel
theorem kd_ne9 (k : Kd) : (k.str != Str.ofString "'") = true := by cases k <;> decide +kernel
theorem codeR_lo {cs : List Int} {i : Int} (h : ¬ codeR cs i < 0) : 0 ≤ i := by
  unfold codeR at h
  split at h <;> omega
theorem codeR_hi {cs : List Int} {i : Int} (h : ¬ codeR cs i < 0) : i < cs.length := by
  unfold codeR at h
  split at h <;> omega
theorem codeR_sgn {cs : List Int} {i : Int} (hg : Sgns cs) (h : ¬ codeR cs i < 0) : Sgn (codeR cs i) := hg.at (codeR_lo h) (codeR_hi h)
theorem codeR_off {cs : List Int} {i : Int} (hg : Sgns cs) (h : codeR cs i < 0) : i < 0 ∨ (cs.length : Int) ≤ i := by
  by_cases q : 0 ≤ i ∧ i < cs.length
  · have := (hg.at q.1 q.2).pos
    omega
  · omega

noncomputable def wAt (cs : List Int) (neg : Bool) (i : Nat) : Bool := decide (kdOf (cs.getD i 0) = .w) != neg
noncomputable def skF (cs : List Int) (neg : Bool) (i : Nat) : Nat := if i < cs.length ∧ wAt cs neg i = true then skF cs neg (i + 1) else i
termination_by cs.length - i
noncomputable def skB (cs : List Int) (neg : Bool) : Nat → Nat
  | 0 => 0
  | i + 1 => if wAt cs neg i = true then skB cs neg i else i + 1
theorem skF_ge (cs : List Int) (neg : Bool) (i : Nat) : i ≤ skF cs neg i := by
  induction i using skF.induct cs neg with
  | case1 i h ih => rw [skF, if_pos h]; omega
  | case2 i h => rw [skF, if_neg h]; exact Nat.le_refl _
theorem skF_le (cs : List Int) (neg : Bool) (i : Nat) (h : i ≤ cs.length) : skF cs neg i ≤ cs.length := by
  induction i using skF.induct cs neg with
  | case1 i hi ih => rw [skF, if_pos hi]; exact ih (by omega)
  | case2 i hi => rw [skF, if_neg hi]; exact h
theorem skB_le (cs : List Int) (neg : Bool) : ∀ i, skB cs neg i ≤ i
  | 0 => Nat.le_refl _
  | i + 1 => by
    unfold skB
    split
    · exact Nat.le_succ_of_le (skB_le cs neg i)
    · exact Nat.le_refl _
noncomputable def fwdW (cs : List Int) (i : Nat) (count : Int) : Nat × Bool :=
  if 0 < count then (if cs.length ≤ skF cs true i then (cs.length, false) else fwdW cs (skF cs false (skF cs true i)) (count - 1))
  else if count < 0 then (if skB cs true i = 0 then (0, false) else fwdW cs (skB cs false (skB cs true i)) (count + 1))
  else (i, true)
termination_by count.natAbs
theorem wAt_rel {cs : List Int} {neg : Bool} {x p : Int} (h0 : p ≤ x) (h1 : x < p + cs.length) : wAt cs neg (x - p).toNat = (decide (kdOf (codeR cs (x - p)) = .w) != neg) := by
  unfold wAt
  rw [codeR_in (by omega) (by omega)]
theorem skF_step {cs : List Int} {neg : Bool} {x p : Int} (h0 : p ≤ x) (h1 : x < p + cs.length) (h : (decide (kdOf (codeR cs (x - p)) = .w) != neg) = true) : skF cs neg (x - p).toNat = skF cs neg (x + 1 - p).toNat := by
  have e : (x + 1 - p).toNat = (x - p).toNat + 1 := by omega
  rw [e, skF, if_pos ⟨by omega, by rw [wAt_rel h0 h1]; exact h⟩]
theorem skF_stop {cs : List Int} {neg : Bool} {x p : Int} (h0 : p ≤ x) (h1 : x ≤ p + cs.length) (h : x < p + cs.length → (decide (kdOf (codeR cs (x - p)) = .w) != neg) = false) : x = p + skF cs neg (x - p).toNat := by
  rw [skF, if_neg]
  · omega
  · rintro ⟨a, b⟩
    rw [wAt_rel h0 (by omega), h (by omega)] at b
    cases b
theorem skB_step {cs : List Int} {neg : Bool} {x p : Int} (h0 : p < x) (h1 : x ≤ p + cs.length) (h : (decide (kdOf (codeR cs (x - 1 - p)) = .w) != neg) = true) : skB cs neg (x - p).toNat = skB cs neg (x - 1 - p).toNat := by
  have e : (x - p).toNat = (x - 1 - p).toNat + 1 := by omega
  rw [e]
  show (if wAt cs neg (x - 1 - p).toNat = true then _ else _) = _
  rw [if_pos (by rw [wAt_rel (by omega) (by omega)]; exact h)]
theorem skB_stop {cs : List Int} {neg : Bool} {x p : Int} (h0 : p ≤ x) (h1 : x ≤ p + cs.length) (h : p < x → (decide (kdOf (codeR cs (x - 1 - p)) = .w) != neg) = false) : x = p + skB cs neg (x - p).toNat := by
  by_cases hx : p < x
  · have e : (x - p).toNat = (x - 1 - p).toNat + 1 := by omega
    have : skB cs neg ((x - 1 - p).toNat + 1) = (x - 1 - p).toNat + 1 := by
      show (if wAt cs neg (x - 1 - p).toNat = true then _ else _) = _
      rw [if_neg]
      rw [wAt_rel (by omega) (by omega), h hx]
      exact Bool.false_ne_true
    rw [e, this]
    omega
  · have e : (x - p).toNat = 0 := by omega
    rw [e]
    show x = p + ((0 : Nat) : Int)
    omega
theorem fwdW_up_out {cs : List Int} {i : Nat} {c : Int} (h : 0 < c) (hs : cs.length ≤ skF cs true i) : fwdW cs i c = (cs.length, false) := by
  rw [fwdW, if_pos h, if_pos hs]
theorem fwdW_up {cs : List Int} {i : Nat} {c : Int} (h : 0 < c) (hs : skF cs true i < cs.length) : fwdW cs i c = fwdW cs (skF cs false (skF cs true i)) (c - 1) := by
  rw [fwdW, if_pos h, if_neg (by omega)]
theorem fwdW_down_out {cs : List Int} {i : Nat} {c : Int} (h : c < 0) (hs : skB cs true i = 0) : fwdW cs i c = (0, false) := by
  rw [fwdW, if_neg (by omega), if_pos h, if_pos hs]
theorem fwdW_down {cs : List Int} {i : Nat} {c : Int} (h : c < 0) (hs : ¬ skB cs true i = 0) : fwdW cs i c = fwdW cs (skB cs false (skB cs true i)) (c + 1) := by
  rw [fwdW, if_neg (by omega), if_pos h, if_neg hs]
theorem fwdW_end {cs : List Int} {i : Nat} {c : Int} (h : c = 0) : fwdW cs i c = (i, true) := by
  rw [fwdW, if_neg (by omega), if_neg (by omega)]
theorem upT_step {cs : List Int} {i : Nat} {m : Int} (h : m < 0) (hi : 0 < i) : upT cs i m = upT cs (lineS cs (i - 1)) (m + 1) := by
  rw [upT, if_pos ⟨h, hi⟩]
theorem upT_end {cs : List Int} {i : Nat} {m : Int} (h : ¬ (m < 0 ∧ 0 < i)) : upT cs i m = (i, m) := by
  rw [upT, if_neg h]
theorem downT_step {cs : List Int} {i : Nat} {m : Int} (h : 0 < m) (hi : lineE cs i < cs.length) : downT cs i m = downT cs (lineE cs i + 1) (m - 1) := by
  rw [downT, if_pos h, if_pos hi]
theorem downT_out {cs : List Int} {i : Nat} {m : Int} (h : 0 < m) (hi : ¬ lineE cs i < cs.length) : downT cs i m = (cs.length, m - (if i < cs.length then 1 else 0)) := by
  rw [downT, if_pos h, if_neg hi]
theorem downT_end {cs : List Int} {i : Nat} {m : Int} (h : ¬ 0 < m) : downT cs i m = (i, 0) := by
  rw [downT, if_neg h]
theorem linesT_up {cs : List Int} {i : Nat} {m : Int} (h : m ≤ 0) : linesT cs i m = upT cs (lineS cs i) m := if_pos h
theorem linesT_down {cs : List Int} {i : Nat} {m : Int} (h : ¬ m ≤ 0) : linesT cs i m = downT cs i m := if_neg h
theorem last_if {y p m : Int} {n : Nat} (h : p ≤ y) : (m - if decide (y < p + (n : Int)) = true then 1 else 0) = m - if (y - p).toNat < n then 1 else 0 := by
  by_cases q : y < p + (n : Int)
  · rw [if_pos (decide_eq_true q), if_pos (by omega)]
  · rw [if_neg (by simpa using q), if_neg (by omega)]

def AllAt (m : Str → Option Value) (ps : List (Str × Value)) : Prop := ∀ p ∈ ps, m p.1 = some p.2
def WEnd {σ : Type} (h₀ : Heap) (L : Addr) (s : Shared) (Lg : σ → Led) (ps : σ → List (Str × Value)) (P : σ → Prop) (μ : σ → Nat) (c : σ) (s₂ : Shared) : Prop :=
  ∃ (c' : σ) (h' : Heap) (tk : Nat) (m' : Str → Option Value) (news' : Led), s₂ = { s with heap := h', toks := tk } ∧ Fr h₀ L h' m' ∧ News h₀ L h' news' ∧ (∀ p ∈ Lg c', p ∈ news') ∧ AllAt m' (ps c') ∧ P c' ∧ μ c' < μ c
def WPost {σ : Type} (h₀ : Heap) (L : Addr) (s : Shared) (Lg : σ → Led) (ps : σ → List (Str × Value)) (P : σ → Prop) (μ : σ → Nat) (Q : Flow → Shared → Prop) (c : σ) (f : Flow) (s₂ : Shared) : Prop :=
  match f with
  | .ret v => Q (.ret v) s₂
  | .brk => Q .next s₂
  | _ => WEnd h₀ L s Lg ps P μ c s₂
theorem wEnd {σ : Type} {h₀ : Heap} {L : Addr} {s : Shared} {Lg : σ → Led} {ps : σ → List (Str × Value)} {P : σ → Prop} {μ : σ → Nat} {c : σ} {h' : Heap} {tk : Nat} {m' : Str → Option Value} {news' : Led} (c' : σ)
    (F : Fr h₀ L h' m') (N : News h₀ L h' news') (hn : ∀ p ∈ Lg c', p ∈ news') (hk : AllAt m' (ps c')) (hp : P c') (hm : μ c' < μ c) :
    WEnd h₀ L s Lg ps P μ c { s with heap := h', toks := tk } := ⟨c', h', tk, m', news', rfl, F, N, hn, hk, hp, hm⟩
theorem w_fr {h₀ h : Heap} {L : Addr} {ps : List (Str × Value)} {m : Str → Option Value} (h1 : AllAt m ps) (F : Fr h₀ L h m) : Fr h₀ L h (kstB m ps) := by
  have em : kstB m ps = m := funext fun y => kstB_eq h1 fun _ => rfl
  rw [em]
  exact F
theorem w_while {prog : Program} {w : World} {A : Around} {E : Value → Shared → Prop} {Q : Flow → Shared → Prop} {s : Shared} {env : Env} {h₀ : Heap} {L : Addr}
    {σ : Type} {test : Expr} {body : List Stmt} {pos : Pos} {m₀ : Str → Option Value} (Lg : σ → Led) (ps : σ → List (Str × Value)) (P : σ → Prop) (μ : σ → Nat) (c₀ : σ)
    (F : Fr h₀ L s.heap m₀) (N : News h₀ L s.heap (Lg c₀)) (hk : AllAt m₀ (ps c₀)) (hp : P c₀)
    (turn : ∀ (c : σ) (u : Str → Option Value) h tk, P c → Fr h₀ L h (kstB u (ps c)) → News h₀ L h (Lg c) →
      wpAny (model prog w) A (isTrue test env (eval test env)) (fun b s₂ =>
        if b = true then wpAny (model prog w) A (execs body env) (WPost h₀ L s Lg ps P μ Q c) E s₂ else Q .next s₂) E { s with heap := h, toks := tk })
    (hE : PassesOwn (model prog w) A env E := by passes_own) :
    wpAny (model prog w) A (exec (.While test body [] pos) env) Q E s := by
  refine While_inv2 (fun n m nx => ∃ c : σ, nx = Lg c ∧ μ c = n ∧ AllAt m (ps c) ∧ P c) F N ⟨c₀, rfl, rfl, hk, hp⟩ ?_ hE
  rintro n m₁ nx h tk F₁ N₁ ⟨c, rfl, rfl, h1, hp'⟩
  refine wpAny_mono (turn c m₁ h tk hp' (w_fr h1 F₁) N₁) (fun b s₂ p => ?_) fun _ _ x => x
  cases b with
  | false => simpa using p
  | true =>
    simp only [if_true] at p ⊢
    refine wpAny_mono p (fun f s₃ q => ?_) fun _ _ x => x
    have step : WEnd h₀ L s Lg ps P μ c s₃ → ∃ (h' : Heap) (tk' : Nat) (m' : Str → Option Value) (news' : Led) (n' : Nat), s₃ = { s with heap := h', toks := tk' } ∧ Fr h₀ L h' m' ∧ News h₀ L h' news' ∧ n' < μ c ∧ ∃ c : σ, news' = Lg c ∧ μ c = n' ∧ AllAt m' (ps c) ∧ P c := by
      rintro ⟨c', h', tk', m', news', e, F', N', hn, hk9, hp9, hm9⟩
      exact ⟨h', tk', m', Lg c', μ c', e, F', fun p hp => N' p (hn p hp), hm9, c', rfl, rfl, hk9, hp9⟩
    cases f with
    | ret v => exact q
    | brk => exact q
    | next => exact step q
    | cont => exact step q
theorem all_nil {m : Str → Option Value} : AllAt m [] := fun _ h => nomatch h
theorem all_cons {m : Str → Option Value} {x : Str} {v : Value} {r : List (Str × Value)} (h : m x = some v) (t : AllAt m r) : AllAt m ((x, v) :: r) := fun p hp => by
  rcases List.mem_cons.mp hp with rfl | hp
  · exact h
  · exact t p hp

inductive TbAt (h base : Heap) (e : Addr) (oc : Value) (od : Option Addr) (fl : Value) : Prop where
  | mk (vs : Array Value) (sl : Array (Option Value)) (T : Addr) (oT : Obj) (ts : Array Value) (q1 : h.get? e = some { cls := oc, dict := od, data := .fields vs, slots := sl }) (q2 : vs[1]? = some (.ref T)) (q3 : base.get? T = none) (q4 : T ≠ e) (q5 : h.get? T = some oT) (q6 : oT.data = .fields ts) (q7 : ts[3]? = some fl)
structure Fly (base : Heap) (l : List Env) (e : Addr) (oc : Value) (od : Option Addr) (fl : Value) (h : Heap) : Prop where
  stays : base.StaysIn h
  new : base.get? e = none
  frames : h.FunFrames base l
  tb : TbAt h base e oc od fl
theorem mapF_cls {oc : Value} {od : Option Addr} {vs : Array Value} {sl : Array (Option Value)} (f : Array Value → Array Value) :
    Obj.mapFields f { cls := oc, dict := od, data := .fields vs, slots := sl } = { cls := oc, dict := od, data := .fields (f vs), slots := sl } := rfl
section
variable {M : Model} {A : Around} {E : Value → Shared → Prop} {s : Shared}
theorem fly_entry {base : Heap} {env : Env} {outer : List Env} {L e : Addr} {oc : Value} {od : Option Addr} {vs : Array Value} {sl : Array (Option Value)} {head : Value} {hadNext : Bool} {Q : Unit → Shared → Prop}
    (hfr : A.frames = some (env :: outer)) (hl : s.heap.FunFrames base (env :: outer)) (hf : env.frame = some L)
    (he : s.heap.get? e = some { cls := oc, dict := od, data := .fields vs, slots := sl }) (hkb : base.StaysIn s.heap) (hen : base.get? e = none) (hsz : 1 < vs.size)
    (h : ∀ h', Fly base (env :: outer) e oc od (rawInt L) h' → s.heap.UpToSlots h' → Q () { s with heap := h' }) :
    wpAny M A (do let a ← frameOf env; let pl ← entryPlaceOf L hadNext; let b ← EntryCells.newEntry head a .none (rawInt L) .none pl; setField (.ref e) 1 b) Q E s := by
  have hene : e ∉ (env :: outer).filterMap (·.frame) := fun hm => by
    obtain ⟨_, o, ho, hnf⟩ := hl.mem hm
    rw [he] at ho
    cases ho
    exact hnf vs rfl
  refine wpAny_bind (wpAny_frameOf_fun hfr hl hf fun h₁ hs₁ => ?_)
  refine wpAny_bind (wpAny_entryPlaceOf fun pl hpl => ?_)
  unfold EntryCells.newEntry newFields
  refine wpAny_bind (wpAny_newObj_type ?_ (hpl.sizeOk5 _ _ _ _ _))
  have he₁ := (hs₁.2.1 e hene).trans he
  have kb₁ : base.StaysIn h₁ := fun b o hbo => (hs₁.2.1 b fun hm => by rw [(hl.mem hm).1] at hbo; cases hbo).trans (hkb b o hbo)
  generalize hT : ({ cls := .type "traceback", dict := none, data := .fields ([head, .ref L, .none, rawInt L, .none] ++ (if pl.isEmpty then List.replicate 6 Value.none else pl)).toArray } : Obj) = oT
  have hTf : oT.isFreed = false := by rw [← hT]; rfl
  have he₂ := Heap.get?_push_of_some (h := h₁) oT he₁
  refine wpAny_setField he₂ rfl hsz ?_
  have hTe : h₁.objs.size ≠ e := Nat.ne_of_gt (Heap.lt_size he₁)
  have he₃ := Heap.get?_update_self (Obj.mapFields (·.setIfInBounds 1 (Value.ref h₁.objs.size))) he₂ rfl
  have hT₃ := (Heap.get?_update_other (h₁.push oT) (Obj.mapFields (·.setIfInBounds 1 (Value.ref h₁.objs.size))) (Ne.symm hTe)).trans (Heap.get?_push_size h₁ hTf)
  have keep : ∀ b o, b ≠ e → h₁.get? b = some o → ((h₁.push oT).update e (Obj.mapFields (·.setIfInBounds 1 (Value.ref h₁.objs.size)))).get? b = some o := fun b o hbe hb =>
    (Heap.get?_update_other _ _ (Ne.symm hbe)).trans (Heap.get?_push_of_some _ hb)
  have ne : ∀ b o, s.heap.get? b = some o → (∀ vs, o.data ≠ .fields vs) → b ≠ e := fun b o hb hnf q => by
    rw [q, he] at hb
    cases hb
    exact hnf vs rfl
  refine h _ ⟨fun b o hbo => keep b o (fun q => by rw [q, hen] at hbo; cases hbo) (kb₁ b o hbo), hen, hl.of_keeps fun b o hb hnf => ?_, ?_⟩ fun b o hb hnf => ?_
  · obtain ⟨sl', hs⟩ := hs₁.2.2 b o hb
    exact ⟨_, keep b _ (ne b o hb hnf) hs, rfl⟩
  · refine ⟨_, sl, h₁.objs.size, oT, _, he₃, by simp [hsz], kb₁.fresh, hTe, hT₃, by rw [← hT], ?_⟩
    first | rfl | (simp; done) | (rcases hpl with rfl | ⟨_, _, _, _, _, _, _, rfl⟩ <;> simp)
  · obtain ⟨sl', hs⟩ := hs₁.2.2 b o hb
    exact ⟨sl', keep b _ (ne b o hb hnf) hs⟩
theorem fly_first {base : Heap} {env : Env} {outer : List Env} {L e : Addr} {oc : Value} {od : Option Addr} {vs : Array Value} {sl : Array (Option Value)} {Q : Unit → Shared → Prop}
    (hfr : A.frames = some (env :: outer)) (hl : s.heap.FunFrames base (env :: outer)) (hf : env.frame = some L)
    (he : s.heap.get? e = some { cls := oc, dict := od, data := .fields vs, slots := sl }) (hkb : base.StaysIn s.heap) (hen : base.get? e = none) (h1 : vs[1]? = some .none)
    (h : ∀ h', Fly base (env :: outer) e oc od (rawInt L) h' → s.heap.UpToSlots h' → Q () { s with heap := h' }) : wpAny M A (noteFrame (.ref e) env) Q E s := by
  unfold noteFrame
  simp only [hf]
  refine wpAny_bind (wpAny_field he rfl h1 ?_)
  rw [if_neg (by decide)]
  exact fly_entry hfr hl hf he hkb hen (Array.getElem?_eq_some_iff.mp h1).1 h
theorem fly_next {base : Heap} {env : Env} {outer : List Env} {L e : Addr} {oc : Value} {od : Option Addr} {Q : Unit → Shared → Prop}
    (hfr : A.frames = some (env :: outer)) (hf : env.frame = some L) (hh : Fly base (env :: outer) e oc od .none s.heap)
    (h : ∀ h', Fly base (env :: outer) e oc od (rawInt L) h' → s.heap.UpToSlots h' → Q () { s with heap := h' }) : wpAny M A (noteFrame (.ref e) env) Q E s := by
  obtain ⟨hkb, hen, hl, vs, sl, T, oT, ts, he, h1, hnT, hTe, hT, hdT, h3⟩ := hh
  unfold noteFrame
  simp only [hf]
  refine wpAny_bind (wpAny_field he rfl h1 ?_)
  rw [if_pos (show (Value.ref T != Value.none) = true from by simp)]
  refine wpAny_bind (wpAny_field hT hdT h3 ?_)
  rw [if_neg (show ¬ ((Value.none == rawInt L) = true) from by simp [rawInt])]
  refine wpAny_bind (wpAny_setField hT hdT (Array.getElem?_eq_some_iff.mp h3).1 ?_)
  have other : ∀ b, b ≠ T → (s.heap.update T (Obj.mapFields (·.setIfInBounds 3 Value.none))).get? b = s.heap.get? b := fun b hb => Heap.get?_update_other _ _ (Ne.symm hb)
  have ne : ∀ b o, s.heap.get? b = some o → (∀ vs, o.data ≠ .fields vs) → b ≠ T := fun b o hb hnf q => by
    rw [q, hT] at hb
    cases hb
    exact hnf ts hdT
  refine fly_entry hfr (hl.of_keeps fun b o hb hnf => ⟨o, (other b (ne b o hb hnf)).trans hb, rfl⟩) hf ((other e (Ne.symm hTe)).trans he)
    (fun b o hbo => (other b fun q => by rw [q, hnT] at hbo; cases hbo).trans (hkb b o hbo)) hen (Array.getElem?_eq_some_iff.mp h1).1 fun h' x1 x2 => h h' x1 fun b o hb hnf => ?_
  exact x2 b o ((other b (ne b o hb hnf)).trans hb) hnf
theorem fly_off {base : Heap} {l : List Env} {e : Addr} {oc : Value} {od : Option Addr} {fl : Value} {Q : Unit → Shared → Prop} (hh : Fly base l e oc od fl s.heap)
    (h : ∀ h', Fly base l e oc od .none h' → s.heap.UpToSlots h' → Q () { s with heap := h' }) : wpAny M A (setFlight (.ref e) none) Q E s := by
  obtain ⟨hkb, hen, hl, vs, sl, T, oT, ts, he, h1, hnT, hTe, hT, hdT, h3⟩ := hh
  have other : ∀ b, b ≠ T → (s.heap.update T (Obj.mapFields (·.setIfInBounds 3 ((none : Option Addr).elim Value.none fun f => rawInt f)))).get? b = s.heap.get? b :=
    fun b hb => Heap.get?_update_other _ _ (Ne.symm hb)
  have ne : ∀ b o, s.heap.get? b = some o → (∀ vs, o.data ≠ .fields vs) → b ≠ T := fun b o hb hnf q => by
    rw [q, hT] at hb
    cases hb
    exact hnf ts hdT
  have hsz3 : 3 < ts.size := (Array.getElem?_eq_some_iff.mp h3).1
  unfold setFlight
  refine wpAny_bind (wpAny_field he rfl h1 ?_)
  rw [if_pos (show (Value.ref T != Value.none) = true from by simp)]
  refine wpAny_setField hT hdT hsz3 (h _ ⟨fun b o hbo => (other b fun q => by rw [q, hnT] at hbo; cases hbo).trans (hkb b o hbo), hen,
    hl.of_keeps fun b o hb hnf => ⟨o, (other b (ne b o hb hnf)).trans hb, rfl⟩, ?_⟩ fun b o hb hnf => ⟨o.slots, (other b (ne b o hb hnf)).trans hb⟩)
  exact ⟨vs, sl, T, _, _, (other e (Ne.symm hTe)).trans he, h1, hnT, hTe, Heap.get?_update_self _ hT (Obj.isFreed_of_fields (Obj.data_mapFields hdT _)), Obj.data_mapFields hdT _, by simp [hsz3]⟩
theorem fly_down {base h : Heap} {env : Env} {outer : List Env} {e : Addr} {oc : Value} {od : Option Addr} {fl : Value} (x : Fly base (env :: outer) e oc od fl h) : Fly base outer e oc od fl h :=
  ⟨x.stays, x.new, x.frames.2.2, x.tb⟩
theorem fly_leaves {base : Heap} {env : Env} {outer : List Env} {L e : Addr} {oc : Value} {od : Option Addr} {Q : Unit → Shared → Prop}
    (hfr : A.frames = some (env :: outer)) (hf : env.frame = some L) (hh : Fly base (env :: outer) e oc od .none s.heap)
    (h : ∀ h', Fly base outer e oc od .none h' → s.heap.UpToSlots h' → Q () { s with heap := h' }) : wpAny M A (leaving env (.ref e)) Q E s := by
  unfold leaving
  exact wpAny_bind (fly_next hfr hf hh fun h₁ x₁ u₁ => fly_off x₁ fun h₂ x₂ u₂ => h h₂ (fly_down x₂) (u₁.trans u₂))
theorem fly_leaves1 {base : Heap} {env : Env} {outer : List Env} {L e : Addr} {oc : Value} {od : Option Addr} {vs : Array Value} {sl : Array (Option Value)} {Q : Unit → Shared → Prop}
    (hfr : A.frames = some (env :: outer)) (hl : s.heap.FunFrames base (env :: outer)) (hf : env.frame = some L)
    (he : s.heap.get? e = some { cls := oc, dict := od, data := .fields vs, slots := sl }) (hkb : base.StaysIn s.heap) (hen : base.get? e = none) (h1 : vs[1]? = some .none)
    (h : ∀ h', Fly base outer e oc od .none h' → s.heap.UpToSlots h' → Q () { s with heap := h' }) : wpAny M A (leaving env (.ref e)) Q E s := by
  unfold leaving
  exact wpAny_bind (fly_first hfr hl hf he hkb hen h1 fun h₁ x₁ u₁ => fly_off x₁ fun h₂ x₂ u₂ => h h₂ (fly_down x₂) (u₁.trans u₂))
end
theorem mem_frames {env : Env} {outer : List Env} {L b : Addr} (hf : env.frame = some L) (hm : b ∈ (env :: outer).filterMap (·.frame)) : b = L ∨ b ∈ outer.filterMap (·.frame) := by
  obtain ⟨e, he, hq⟩ := List.mem_filterMap.mp hm
  rcases List.mem_cons.mp he with rfl | he
  · rw [hf] at hq
    exact .inl (Option.some.inj hq).symm
  · exact .inr (List.mem_filterMap.mpr ⟨e, he, hq⟩)
inductive Rsd (base G : Heap) (l : List Env) (e : Addr) (od : Option Addr) (news : Led) (h : Heap) : Prop where
  | mk (B : Heap) (q1 : base.StaysIn B) (q2 : ∀ b o, G.get? b = some o → b ∉ l.filterMap (·.frame) → B.get? b = some o) (q3 : ∀ q ∈ news, B.get? q.1 = some q.2 ∧ G.get? q.1 = none ∧ base.get? q.1 = none) (q4 : Fly B l e (.ref 129) od .none h)
theorem Rsd.sub {base G h : Heap} {l : List Env} {e : Addr} {od : Option Addr} {news news' : Led} (x : Rsd base G l e od news h) (hs : ∀ q ∈ news', q ∈ news) : Rsd base G l e od news' h := by
  obtain ⟨B, a1, a2, a3, a4⟩ := x
  exact ⟨B, a1, a2, fun q hq => a3 q (hs q hq), a4⟩
section
variable {M : Model} {A : Around} {E : Value → Shared → Prop} {s : Shared} {base g G : Heap} {env : Env} {outer : List Env} {L e : Addr} {m : Str → Option Value} {Q : Unit → Shared → Prop} {news : Led} {od : Option Addr}
theorem leave_new {vs : Array Value} {sl : Array (Option Value)} (K : Below A base outer g) (F : Fr g L s.heap m) (N : News g L s.heap news) (hf : env.frame = some L) (hk : env.scope.kind = .function)
    (he : s.heap.get? e = some { cls := .ref 129, dict := od, data := .fields vs, slots := sl }) (h1 : vs[1]? = some .none) (hg : g.get? e = none) (hn : ∀ q ∈ news, q.1 ≠ e)
    (hQ : ∀ h', Rsd base g outer e od news h' → g.UpToSlots h' → Q () { s with heap := h' }) : wpAny M (A.deeper env) (leaving env (.ref e)) Q E s := by
  have K' := pushX K F hf hk
  have nf : e ∉ (env :: outer).filterMap (·.frame) := fun hm => by
    obtain ⟨_, o, ho, hd⟩ := K'.frames.mem hm
    rw [he] at ho
    cases ho
    exact hd vs rfl
  have hin : ∀ env' ∈ (env :: outer), ∀ b, env'.frame = some b → b ∈ e :: (env :: outer).filterMap (·.frame) := fun env' he' b hb => .tail _ (List.mem_filterMap.mpr ⟨env', he', hb⟩)
  have st : base.StaysIn (hideAll s.heap (e :: (env :: outer).filterMap (·.frame))) := fun b o q => hideAll_get _ (K'.stays b o q) fun hm => by
    rcases List.mem_cons.mp hm with rfl | hm
    · have := K.stays b o q
      rw [hg] at this
      cases this
    · rw [(K'.frames.mem hm).1] at q
      cases q
  have sg : ∀ b o, g.get? b = some o → b ∉ outer.filterMap (·.frame) → (hideAll s.heap (e :: (env :: outer).filterMap (·.frame))).get? b = some o := fun b o q nm => hideAll_get _ (F.keep b o q) fun hm => by
    rcases List.mem_cons.mp hm with rfl | hm
    · rw [hg] at q
      cases q
    · rcases mem_frames hf hm with z | z
      · rw [z, kts_self F] at q
        cases q
      · exact nm z
  have hl : ∀ q ∈ news, (hideAll s.heap (e :: (env :: outer).filterMap (·.frame))).get? q.1 = some q.2 ∧ g.get? q.1 = none ∧ base.get? q.1 = none := fun q hq => by
    refine ⟨hideAll_get _ (N q hq).1 fun hm => ?_, (N q hq).2.2, fresh_of_stays K.stays (N q hq).2.2⟩
    rcases List.mem_cons.mp hm with z | hm
    · exact hn q hq z
    · rcases mem_frames hf hm with z | z
      · exact (N q hq).2.1 z
      · obtain ⟨o, ho, _⟩ := (K.frames.mem z).2
        rw [(N q hq).2.2] at ho
        cases ho
  exact fly_leaves1 K'.stack (funFrames_hide K'.frames hin) hf he (fun b o q => of_hideAll _ q) (hideAll_none _ (.head _)) h1 fun h' x u =>
    hQ h' ⟨_, st, sg, hl, x⟩ ((Heap.UpToSlots.of_keeps F.keep).trans u)
theorem leave_pass (K : Below A base outer g) (F : Fr g L G m) (hf : env.frame = some L) (R : Rsd base G (env :: outer) e od news s.heap) (hsm : G.UpToSlots s.heap)
    (hQ : ∀ h', Rsd base g outer e od news h' → g.UpToSlots h' → Q () { s with heap := h' }) : wpAny M (A.deeper env) (leaving env (.ref e)) Q E s := by
  obtain ⟨B, hB, hBG, hl, hfl⟩ := R
  exact fly_leaves (Around.frames_deeper K.stack) hf hfl fun h' x u => hQ h' ⟨B, hB, fun b o q nm => hBG b o (F.keep b o q) (fun hm => by
    rcases mem_frames hf hm with z | z
    · rw [z, kts_self F] at q
      cases q
    · exact nm z), fun q hq => ⟨(hl q hq).1, kts_none F.keep (hl q hq).2.1, (hl q hq).2.2⟩, x⟩ ((Heap.UpToSlots.of_keeps F.keep).trans (hsm.trans u))
end

inductive ScIn (v tb : Addr) (p d l g : Int) (b : Bool) (o : Obj) : Prop where
  | mk  (h1 h2 h3 h4 h5 h6 h7 h8 h9 : Int) (k1 k2 k3 k4 k5 k6 k7 k8 k9 tp td tl tg : Tok) (q1 : o = dictOf [⟨h1, .str (Str.ofString "view") k1, .ref v⟩, ⟨h2, .str (Str.ofString "table") k2, .ref tb⟩, ⟨h3, .str (Str.ofString "place") k3, .int p tp⟩, ⟨h4, .str (Str.ofString "depth") k4, .int d td⟩, ⟨h5, .str (Str.ofString "least") k5, .int l tl⟩, ⟨h6, .str (Str.ofString "good") k6, .int g tg⟩, ⟨h7, .str (Str.ofString "is_expression") k7, .bool false⟩, ⟨h8, .str (Str.ofString "is_paired") k8, .bool false⟩, ⟨h9, .str (Str.ofString "is_done") k9, .bool b⟩] 9)
noncomputable abbrev scL (o : Obj) (sc sd : Addr) (news : Led) : Led := (sc, instObj 589 sd) :: (sd, o) :: news
structure ScA (sc sd : Addr) (news : Led) : Prop where
  lo : ∀ q ∈ news, q.1 < sd
  hi : @LT.lt Nat _ sd sc
inductive ScR (sc sd v tb : Addr) (p d l g : Int) (b : Bool) (news : Led) (r : Value) (n' : Led) : Prop where
  | mk (q0 : r = .none) (o : Obj) (q1 : n' = scL o sc sd news) (q2 : ScIn v tb p d l g b o)
inductive ScRB (B : Prop) (sc sd v tb : Addr) (p d l g : Int) (b : Bool) (news : Led) (r : Value) (n' : Led) : Prop where
  | mk (hb : B) (q0 : r = .none) (o : Obj) (q1 : n' = scL o sc sd news) (q2 : ScIn v tb p d l g b o)
noncomputable def dS (f : Bool) (k : Kd) (d : Int) : Int := match k with
  | .o => if f then d + 1 else d - 1
  | .c => if f then d - 1 else d + 1
  | _ => d
noncomputable def bS (f : Bool) (k : Kd) (d : Int) (b : Bool) : Bool := match k with
  | .o => dS f .o d == 0
  | .c => dS f .c d == 0
  | _ => b
noncomputable def outK : Bool → Kd
  | true => .c
  | false => .o
def badS (f : Bool) (k : Kd) (d l : Int) : Prop := d - 1 < l ∧ k = outK f
theorem dS_else {f : Bool} {k : Kd} {d : Int} (h1 : ¬ k = .o) (h2 : ¬ k = .c) : dS f k d = d := by cases k <;> first | rfl | exact absurd rfl h1 | exact absurd rfl h2
theorem bS_else {f : Bool} {k : Kd} {d : Int} {b : Bool} (h1 : ¬ k = .o) (h2 : ¬ k = .c) : bS f k d b = b := by cases k <;> first | rfl | exact absurd rfl h1 | exact absurd rfl h2
theorem badS_else {f : Bool} {k : Kd} {d l : Int} (h1 : ¬ k = .o) (h2 : ¬ k = .c) : ¬ badS f k d l := fun h => by
  cases f
  · exact h1 h.2
  · exact h2 h.2
theorem notO_wu {k : Kd} (h : k = .w ∨ k = .u) : ¬ k = .o := by rcases h with rfl | rfl <;> exact fun h => Kd.noConfusion h
theorem notC_wu {k : Kd} (h : k = .w ∨ k = .u) : ¬ k = .c := by rcases h with rfl | rfl <;> exact fun h => Kd.noConfusion h
theorem drop_tup {h₀ h : Heap} {L a x y : Addr} {rest : Led} (N : News h₀ L h ((a, { cls := .type "tuple", data := .seq #[.ref x, .ref y] }) :: rest)) : News h₀ L h rest := fun q hq => N q (.tail _ hq)
inductive Out where
  | at (i : Nat)
  | off
  | ends (g i : Nat)
  | unb (g i : Nat)
noncomputable def scF (cs : List Int) (l : Int) (i : Nat) (d : Int) (g : Nat) : Out :=
  if i < cs.length then
    (if d - 1 < l ∧ kdOf (cs.getD i 0) = outK true then .ends (if d = l then i else g) (i + 1)
     else if bS true (kdOf (cs.getD i 0)) d false = true then .at (i + 1)
     else scF cs l (i + 1) (dS true (kdOf (cs.getD i 0)) d) (if d = l then i else g))
  else if d = 0 then .off else .unb g i
termination_by cs.length - i
noncomputable def scB (cs : List Int) (l : Int) : Nat → Int → Nat → Out
  | 0, d, g => if d = 0 then .off else .unb g 0
  | i + 1, d, g =>
    (if d - 1 < l ∧ kdOf (cs.getD i 0) = outK false then .ends (if d = l then i + 1 else g) i
     else if bS false (kdOf (cs.getD i 0)) d false = true then .at i
     else scB cs l i (dS false (kdOf (cs.getD i 0)) d) (if d = l then i + 1 else g))
def outR (p : Int) (o : Out) (r : Value) : Prop := match o with
  | .at j => ∃ t, r = .int (p + (j : Int)) t
  | .off => r = .none
  | _ => False
def outE (p : Int) (o : Out) (msg : Str) (g n : Int) : Prop := match o with
  | .ends g' i => msg = Str.ofString "Containing expression ends prematurely" ∧ g = p + (g' : Int) ∧ n = p + (i : Int)
  | .unb g' i => msg = Str.ofString "Unbalanced parentheses" ∧ g = p + (g' : Int) ∧ n = p + (i : Int)
  | _ => False
theorem scin_cast {v tb : Addr} {p d l g : Int} {b b' : Bool} {o : Obj} (h : ScIn v tb p d l g b o) (e : b = b') : ScIn v tb p d l g b' o := e ▸ h
theorem getD_rel {cs : List Int} {y p : Int} (h0 : p ≤ y) (h1 : y < p + cs.length) : cs.getD (y - p).toNat 0 = codeR cs (y - p) := (codeR_in (by omega) (by omega)).symm
theorem relS {y p : Int} (h0 : p ≤ y) : (y + 1 - p).toNat = (y - p).toNat + 1 := by omega
theorem goodN {d l y g p : Int} : (if d = l then (y - p).toNat else (g - p).toNat) = ((if d = l then y else g) - p).toNat := by split <;> rfl
theorem scF_bad {cs : List Int} {l d y p g : Int} (h0 : p ≤ y) (h1 : y < p + cs.length) (h : badS true (kdOf (codeR cs (y - p))) d l) :
    scF cs l (y - p).toNat d (g - p).toNat = .ends ((if d = l then y else g) - p).toNat ((y - p).toNat + 1) := by
  rw [scF, if_pos (by omega), getD_rel h0 h1, if_pos (show _ ∧ _ from h), goodN]
theorem scF_done {cs : List Int} {l d y p g : Int} (h0 : p ≤ y) (h1 : y < p + cs.length) (h : ¬ badS true (kdOf (codeR cs (y - p))) d l) (hb : bS true (kdOf (codeR cs (y - p))) d false = true) :
    scF cs l (y - p).toNat d (g - p).toNat = .at ((y - p).toNat + 1) := by
  rw [scF, if_pos (by omega), getD_rel h0 h1, if_neg (show ¬ (_ ∧ _) from h), if_pos hb]
theorem scF_step {cs : List Int} {l d y p g : Int} (h0 : p ≤ y) (h1 : y < p + cs.length) (h : ¬ badS true (kdOf (codeR cs (y - p))) d l) (hb : bS true (kdOf (codeR cs (y - p))) d false = false) :
    scF cs l (y - p).toNat d (g - p).toNat = scF cs l (y + 1 - p).toNat (dS true (kdOf (codeR cs (y - p))) d) ((if d = l then y else g) - p).toNat := by
  rw [scF, if_pos (by omega), getD_rel h0 h1, if_neg (show ¬ (_ ∧ _) from h), if_neg (by rw [hb]; exact Bool.false_ne_true), goodN, relS h0]
theorem scF_off {cs : List Int} {l d y p g : Int} (h1 : p + cs.length ≤ y) (hd : d = 0) : scF cs l (y - p).toNat d (g - p).toNat = .off := by
  rw [scF, if_neg (by omega), if_pos hd]
theorem scF_unb {cs : List Int} {l d y p g : Int} (h1 : p + cs.length ≤ y) (hd : ¬ d = 0) : scF cs l (y - p).toNat d (g - p).toNat = .unb (g - p).toNat (y - p).toNat := by
  rw [scF, if_neg (by omega), if_neg hd]
theorem predN {y p : Int} (h : p < y) : (y - p).toNat = (y - 1 - p).toNat + 1 := by omega
theorem goodB {d l y g p : Int} (h : p < y) : (if d = l then (y - 1 - p).toNat + 1 else (g - p).toNat) = ((if d = l then y else g) - p).toNat := by split <;> omega
theorem scB_bad {cs : List Int} {l d y p g : Int} (h0 : p < y) (h1 : y ≤ p + cs.length) (h : badS false (kdOf (codeR cs (y - 1 - p))) d l) :
    scB cs l (y - p).toNat d (g - p).toNat = .ends ((if d = l then y else g) - p).toNat (y - 1 - p).toNat := by
  rw [predN h0, scB, getD_rel (by omega) (by omega), if_pos (show _ ∧ _ from h), goodB h0]
theorem scB_done {cs : List Int} {l d y p g : Int} (h0 : p < y) (h1 : y ≤ p + cs.length) (h : ¬ badS false (kdOf (codeR cs (y - 1 - p))) d l) (hb : bS false (kdOf (codeR cs (y - 1 - p))) d false = true) :
    scB cs l (y - p).toNat d (g - p).toNat = .at (y - 1 - p).toNat := by
  rw [predN h0, scB, getD_rel (by omega) (by omega), if_neg (show ¬ (_ ∧ _) from h), if_pos hb]
theorem scB_step {cs : List Int} {l d y p g : Int} (h0 : p < y) (h1 : y ≤ p + cs.length) (h : ¬ badS false (kdOf (codeR cs (y - 1 - p))) d l) (hb : bS false (kdOf (codeR cs (y - 1 - p))) d false = false) :
    scB cs l (y - p).toNat d (g - p).toNat = scB cs l (y - 1 - p).toNat (dS false (kdOf (codeR cs (y - 1 - p))) d) ((if d = l then y else g) - p).toNat := by
  rw [predN h0, scB, getD_rel (by omega) (by omega), if_neg (show ¬ (_ ∧ _) from h), if_neg (by rw [hb]; exact Bool.false_ne_true), goodB h0]
theorem scB_off {cs : List Int} {l d y p g : Int} (h1 : y ≤ p) (hd : d = 0) : scB cs l (y - p).toNat d (g - p).toNat = .off := by
  rw [show (y - p).toNat = 0 by omega, scB, if_pos hd]
theorem scB_unb {cs : List Int} {l d y p g : Int} (h1 : y ≤ p) (hd : ¬ d = 0) : scB cs l (y - p).toNat d (g - p).toNat = .unb (g - p).toNat (y - p).toNat := by
  rw [show (y - p).toNat = 0 by omega, scB, if_neg hd]
inductive WkIn (v tb : Addr) (p : Int) (lo : Addr) (o : Obj) : Prop where
  | mk  (h1 h2 h3 h4 h5 h6 h7 h8 h9 h10 h11 h12 h13 h14 h15 : Int) (k1 k2 k3 k4 k5 k6 k7 k8 k9 k10 k11 k12 k13 k14 k15 tp tb' tl tc ts th : Tok) (b le : Int) (wh wo : Value) (q1 : (wo = .none ∨ ∃ i t, wo = .int i t)) (q2 : o = dictOf [⟨h1, .str (Str.ofString "view") k1, .ref v⟩, ⟨h2, .str (Str.ofString "table") k2, .ref tb⟩, ⟨h3, .str (Str.ofString "place") k3, .int p tp⟩, ⟨h4, .str (Str.ofString "opens") k4, .ref lo⟩, ⟨h5, .str (Str.ofString "below") k5, .int b tb'⟩, ⟨h6, .str (Str.ofString "least") k6, .int le tl⟩, ⟨h7, .str (Str.ofString "whole") k7, wh⟩, ⟨h8, .str (Str.ofString "word") k8, wo⟩, ⟨h9, .str (Str.ofString "string") k9, .none⟩, ⟨h10, .str (Str.ofString "comment") k10, .int 0 tc⟩, ⟨h11, .str (Str.ofString "style") k11, .str (Str.ofString "") ts⟩, ⟨h12, .str (Str.ofString "nests") k12, .bool false⟩, ⟨h13, .str (Str.ofString "start") k13, .none⟩, ⟨h14, .str (Str.ofString "quoted") k14, .bool false⟩, ⟨h15, .str (Str.ofString "half") k15, .str (Str.ofString "") th⟩] 15)
noncomputable abbrev wkL (o : Obj) (lv : List Value) (n : Nat) (lo wk wd : Addr) (news : Led) : Led := (lo, listOf lv.toArray n) :: (wk, instObj 519 wd) :: (wd, o) :: news
structure WkA (lo wk wd : Addr) (news : Led) : Prop where
  low : ∀ q ∈ news, q.1 ≠ wd
  mid : @LT.lt Nat _ wd wk
  top : @LT.lt Nat _ wk lo
  far : ∀ q ∈ news, q.1 ≠ lo
inductive WkR (lo wk wd v tb : Addr) (p : Int) (k : Nat) (news : Led) (r : Value) (n' : Led) : Prop where
  | mk (q0 : r = .none) (o : Obj) (lv : List Value) (n : Nat) (q1 : n' = wkL o lv n lo wk wd news) (q2 : WkIn v tb p lo o) (q3 : lv.length ≤ k)
theorem GivesU.useWk {w : World} {f : Addr} {dd : Nat} {vs : List Value} {nw : Led} {lo wk wd v tb : Addr} {x : Int} {k : Nat} {news : Led}
    {p' : Program} {loose : List Str} {mean : ExcName → Option Value} {mg mb : Str → Option Value}
    {dp un : Nat} {gd : Option (List Code)} {cn : Str} {cs' : Scope} {a' : Addr} {ccd : Value} {cl : List (Str × Addr)} {outer : List Env}
    {A₀ : Around} {base h₀ : Heap} {L : Addr} {m : Str → Option Value} {hp : Heap} {gs : Array GenState} {dr : Drawn} {tk : Nat} {os : OsState} {Q E : Value → Shared → Prop}
    (G : GivesU w f dd vs nw (WkR lo wk wd v tb x k news))
    (B : Below A₀ base outer h₀) (F : Fr h₀ L hp m) (X : (Mine.T.heap_1 w.params).In h₀) (N : News h₀ L hp nw) (T : Top p' loose mean mg mb h₀) (hk : cs'.kind = .function)
    (hd : dp + dd < recursionLimit) (hu : un + 8 * dd < cLine)
    (hret : ∀ o lv n h' tk', WkIn v tb x lo o → lv.length ≤ k → Fr h₀ L h' m → News h₀ L h' (wkL o lv n lo wk wd news) → Q .none ⟨h', gs, dr, tk', os⟩) :
    wpAny (model PR w) (ktrTop dp un gd cn cs' L a' ccd cl outer) (call (.ref f) vs) Q E ⟨hp, gs, dr, tk, os⟩ :=
  G.run p' loose mean mg mb dp un gd cn cs' a' ccd cl outer A₀ base h₀ L m ⟨hp, gs, dr, tk, os⟩ Q E B F X N T hk hd hu fun r n' h' tk' hr F' N' => by
    obtain ⟨rfl, o, lv, n, rfl, h1, h2⟩ := hr
    exact hret o lv n h' tk' h1 h2 F' N'
theorem last_app {y : Value} : ∀ {p : List Value}, kl_last (p ++ [y]) = some (p, y)
  | [] => rfl
  | a :: p => by
    show (match kl_last (p ++ [y]) with | some (p, y) => some (a :: p, y) | none => some ([], a)) = _
    rw [last_app]
theorem app_cases : ∀ l : List Value, l = [] ∨ ∃ p y, l = p ++ [y]
  | [] => .inl rfl
  | a :: r => .inr (match app_cases r with
    | .inl h => ⟨[], a, by rw [h]; rfl⟩
    | .inr ⟨p, y, h⟩ => ⟨a :: p, y, by rw [h]; rfl⟩)
theorem drop_head {h₀ h : Heap} {L : Addr} {a : Addr × Obj} {rest : Led} (N : News h₀ L h (a :: rest)) : News h₀ L h rest := fun q hq => N q (.tail _ hq)
theorem app_len {p : List Value} {y : Value} {k : Nat} (h : (p ++ [y]).length ≤ k) : p.length + 1 ≤ k := by
  rw [List.length_append] at h
  exact h
inductive PsIn (o : Obj) : Prop where
  | mk  (h1 h2 h3 h4 h5 h6 h7 h8 h9 h10 h11 h12 : Int) (k1 k2 k3 k4 k5 k6 k7 k8 k9 k10 k11 k12 : Tok) (q1 : o = dictOf [⟨h1, .str (Str.ofString "opens") k1, .ref 140⟩, ⟨h2, .str (Str.ofString "below") k2, .int 0 374⟩, ⟨h3, .str (Str.ofString "least") k3, .int 0 375⟩, ⟨h4, .str (Str.ofString "whole") k4, .none⟩, ⟨h5, .str (Str.ofString "word") k5, .none⟩, ⟨h6, .str (Str.ofString "string") k6, .none⟩, ⟨h7, .str (Str.ofString "comment") k7, .int 0 376⟩, ⟨h8, .str (Str.ofString "style") k8, .str (Str.ofString "") 377⟩, ⟨h9, .str (Str.ofString "nests") k9, .bool false⟩, ⟨h10, .str (Str.ofString "start") k10, .none⟩, ⟨h11, .str (Str.ofString "quoted") k11, .bool false⟩, ⟨h12, .str (Str.ofString "half") k12, .str (Str.ofString "") 378⟩] 12)
theorem drop_tupG {h₀ h : Heap} {L a : Addr} {xs : Array Value} {rest : Led} (N : News h₀ L h ((a, { cls := .type "tuple", data := .seq xs }) :: rest)) : News h₀ L h rest := fun q hq => N q (.tail _ hq)
theorem outR_cases {p : Int} {o : Out} {r : Value} (h : outR p o r) : (∃ j t, o = .at j ∧ r = .int (p + (j : Int)) t) ∨ (o = .off ∧ r = .none) := by
  cases o with
  | «at» j => exact .inl ⟨j, h.choose, rfl, h.choose_spec⟩
  | off => exact .inr ⟨rfl, h⟩
  | ends => exact False.elim h
  | unb => exact False.elim h
theorem scF_le {cs : List Int} {l : Int} {i j g : Nat} {d : Int} (h : scF cs l i d g = .at j) : j ≤ cs.length := by
  induction i, d, g using scF.induct cs l with
  | case1 i d g hi h1 => rw [scF, if_pos hi, if_pos h1] at h; cases h
  | case2 i d g hi h1 h2 => rw [scF, if_pos hi, if_neg h1, if_pos h2] at h; cases h; exact hi
  | case3 i d g hi h1 h2 ih => rw [scF, if_pos hi, if_neg h1, if_neg h2] at h; exact ih h
  | case4 i g hi => rw [scF, if_neg hi, if_pos rfl] at h; cases h
  | case5 i d g hi hd => rw [scF, if_neg hi, if_neg hd] at h; cases h
theorem scB_le {cs : List Int} {l : Int} {j : Nat} : ∀ {i g : Nat} {d : Int}, scB cs l i d g = .at j → j ≤ i
  | 0, g, d, h => by unfold scB at h; split at h <;> cases h
  | i + 1, g, d, h => by
    unfold scB at h
    split at h
    · cases h
    · split at h
      · cases h; exact Nat.le_succ _
      · exact Nat.le_succ_of_le (scB_le h)
noncomputable def scG (cs : List Int) (i : Nat) (c d : Int) : Out :=
  if 0 < c then (match scF cs (if 0 < d then 0 else d) i d i with
    | .at j => scG cs j (c - 1) 0
    | o => o)
  else if c < 0 then (match scB cs (if 0 < d then 0 else d) i d i with
    | .at j => scG cs j (c + 1) 0
    | o => o)
  else .at i
termination_by c.natAbs
theorem scG_up {cs : List Int} {i j : Nat} {c d : Int} (h : 0 < c) (e : scF cs (if 0 < d then 0 else d) i d i = .at j) : scG cs i c d = scG cs j (c - 1) 0 := by rw [scG, if_pos h, e]
theorem scG_up_off {cs : List Int} {i : Nat} {c d : Int} (h : 0 < c) (e : scF cs (if 0 < d then 0 else d) i d i = .off) : scG cs i c d = .off := by rw [scG, if_pos h, e]
theorem scG_up_err {cs : List Int} {i : Nat} {c d p g n : Int} {msg : Str} (h : 0 < c) (e : outE p (scF cs (if 0 < d then 0 else d) i d i) msg g n) : outE p (scG cs i c d) msg g n := by
  rw [scG, if_pos h]
  cases q : scF cs (if 0 < d then 0 else d) i d i <;> rw [q] at e <;> first | exact e | exact False.elim e
theorem scG_dn {cs : List Int} {i j : Nat} {c d : Int} (h : c < 0) (e : scB cs (if 0 < d then 0 else d) i d i = .at j) : scG cs i c d = scG cs j (c + 1) 0 := by rw [scG, if_neg (by omega), if_pos h, e]
theorem scG_dn_off {cs : List Int} {i : Nat} {c d : Int} (h : c < 0) (e : scB cs (if 0 < d then 0 else d) i d i = .off) : scG cs i c d = .off := by rw [scG, if_neg (by omega), if_pos h, e]
theorem scG_dn_err {cs : List Int} {i : Nat} {c d p g n : Int} {msg : Str} (h : c < 0) (e : outE p (scB cs (if 0 < d then 0 else d) i d i) msg g n) : outE p (scG cs i c d) msg g n := by
  rw [scG, if_neg (by omega), if_pos h]
  cases q : scB cs (if 0 < d then 0 else d) i d i <;> rw [q] at e <;> first | exact e | exact False.elim e
theorem scG_end {cs : List Int} {i : Nat} {c d : Int} (h : c = 0) : scG cs i c d = .at i := by rw [scG, if_neg (by omega), if_neg (by omega)]
noncomputable def optV : Option (Int × Tok) → Value
  | some q => .int q.1 q.2
  | none => .none
def byP (cs : List Int) (p : Int) (a : Option (Int × Tok)) (c d : Int) (o : Out) : Prop := match a with
  | some q => p ≤ q.1 ∧ q.1 ≤ p + cs.length ∧ scG cs (q.1 - p).toNat c d = o
  | none => o = .off

section
section
variable {M : Model} {A : Around} {E : Value → Shared → Prop} {env : Env}
variable {nm q : Str} {C N : Addr} {bs bm : List Value} {hdct : Bool} {sn : List Str} {sub : List Value} {ab : Bool} {col : Option Bool} {dd : Option Addr} {k0 k1 k2 k3 k5 : Option Value} {newId : String}
theorem raise_stmt {s : Shared} {x : Sem Value} {Q : Flow → Shared → Prop} (hbase : bm.contains (.type "BaseException") = true) (hh : A.handled = none)
    (h : wpAny M A x (fun v s₁ => ∃ e od vs sl, v = .ref e ∧ s₁.heap.get? C = some (excClassObj nm q C N bs bm hdct sn sub ab col dd k0 k1 k2 k3 k5 newId) ∧
      s₁.heap.get? e = some { cls := .ref C, dict := od, data := .fields vs, slots := sl } ∧ vs[1]? = some .none ∧ E (.ref e) s₁) E s) :
    wpAny M A (raiseStmt env (some x) none) Q E s := by
  have hcB : (Value.ref C :: bm).contains (.type "BaseException") = true := by rw [List.contains_cons, hbase, Bool.or_true]
  unfold raiseStmt
  refine wpAny_bind (wpAny_mono h (fun v s₁ h₁ => ?_) fun _ _ x => x)
  obtain ⟨e, od, vs, sl, rfl, hC, he, h1, hE⟩ := h₁
  obtain ⟨hp, g, d, tk, os⟩ := s₁
  repeat (first | with_reducible refine wpAny_loadPart_at he ?_ | with_reducible refine wpAny_loadPart_at hC ?_ | (with_reducible refine wpAny_isSubtype_exc hC ?_; rw [hcB]) | (with_reducible refine wpAny_field he rfl h1 ?_) | wp_step)
  exact wpAny_raiseNew_none hh hE
theorem raise_exec {s : Shared} {x : Expr} {pos : Pos} {Q : Flow → Shared → Prop} (hbase : bm.contains (.type "BaseException") = true) (hh : A.handled = none)
    (h : wpAny M A (eval x env) (fun v s₁ => ∃ e od vs sl, v = .ref e ∧ s₁.heap.get? C = some (excClassObj nm q C N bs bm hdct sn sub ab col dd k0 k1 k2 k3 k5 newId) ∧
      s₁.heap.get? e = some { cls := .ref C, dict := od, data := .fields vs, slots := sl } ∧ vs[1]? = some .none ∧ E (.ref e) s₁) E s) :
    wpAny M A (exec (.Raise (some x) none pos) env) Q E s := by
  show wpAny M A (do standAt pos; raiseStmt env (some (do let v ← eval x env; standAt pos; pure v)) none) Q E s
  exact wpAny_bind (wpAny_standAt (raise_stmt (C := C) (nm := nm) (q := q) (N := N) (bs := bs) (bm := bm) (hdct := hdct) (sn := sn) (sub := sub) (ab := ab) (col := col) (dd := dd) (k0 := k0) (k1 := k1) (k2 := k2) (k3 := k3) (k5 := k5) (newId := newId) hbase hh
    (wpAny_bind (wpAny_mono h (fun v s₁ h₁ => wpAny_bind (wpAny_standAt (wpAny_pure h₁))) fun _ _ x => x))))
end
def NsO (od : Obj) (mA : Str → Option Value) : Prop := ∃ es ep, od.data = .dict es ep ∧ StrKeys es ∧ UniqKeys es ∧ ∀ name, nsFind es name = mA name
theorem NsO.here {h : Heap} {a : Addr} {od : Obj} {mA : Str → Option Value} (x : NsO od mA) (ho : h.get? a = some od) : h.Ns1 a mA := let ⟨es, ep, r⟩ := x; ⟨od, es, ep, ho, r⟩
theorem ns1_obj {h : Heap} {a : Addr} {mA : Str → Option Value} (x : h.Ns1 a mA) : ∃ od, h.get? a = some od ∧ NsO od mA := let ⟨od, es, ep, ho, r⟩ := x; ⟨od, ho, es, ep, r⟩
section
variable {prog : Program} {w : World} {A : Around} {E : Value → Shared → Prop} {h : Heap} {g : Array GenState} {d : Drawn} {t : Nat} {os : OsState}
variable {nm q : Str} {C N x : Addr} {bs bm : List Value} {sn : List Str} {sub : List Value} {ab : Bool} {col : Option Bool} {dd : Option Addr} {k0 k1 k2 k3 k5 : Option Value} {B newId sa owner : String}
  {mN : Str → Option Value} {name : Str} {v : Value} {dt : Data} {sl : Array (Option Value)}
open Builtin Builtin.ObjectAttr
theorem store1_entry {tk : Tok} {Q : Fin → Shared → Prop} (SF : StoreFacts B bm sa owner)
    (hC : h.get? C = some (excClassObj nm q C N bs bm true sn sub ab col dd k0 k1 k2 k3 k5 newId)) (hn : h.Ns N mN) (hna : mN name = none)
    (hB : typeLookup (.type B) name = pure none) (hx : h.get? x = some { cls := .ref C, dict := none, data := dt, slots := sl }) (hnc : ∀ c, dt ≠ .cls c)
    (hq : ∀ h' od tk', h'.get? x = some { cls := .ref C, dict := some h.objs.size, data := dt, slots := sl } → h'.get? h.objs.size = some od → NsO od (fun y => if y = name then some v else none) →
      (∀ b o, b ≠ x → h.get? b = some o → h'.get? b = some o) → Q (.done (.ret .none)) ⟨h', g, d, tk', os⟩) :
    wpAny (model prog w) A (Builtin.«object.__setattr__» ⟨[.ref x, .str name tk, v], []⟩) Q E ⟨h, g, d, t, os⟩ := by
  have hpass := SF.passes (.ref x)
  unfold Builtin.«object.__setattr__»
  repeat (first | rw [refuse_eq] | (rw [refuseLoop_ref, hpass]) | (with_reducible refine wpAny_loadPart_at hx ?_) | with_reducible refine wpAny_mroOf_exc hC ?_ | (with_reducible refine wpAny_typeLookup_exc hC hn SF.mro hB ?_; rw [hna]) | wp_step)
  split
  · rename_i c hcd
    exact absurd hcd (hnc c)
  have hx₁ := Heap.get?_push_of_some (h := h) { cls := .type "dict", data := .dict #[] } hx
  have hxs : x ≠ h.objs.size := Nat.ne_of_lt (Heap.lt_size hx)
  refine wpAny_bind (wpAny_alloc' ?_)
  refine wpAny_bind (wpAny_update' hx₁ ?_)
  refine wpAny_pure ?_
  have hgd : ((h.push { cls := .type "dict", data := .dict #[] }).update x fun o => { cls := o.cls, dict := some h.objs.size, data := o.data, slots := o.slots }).get? h.objs.size
      = some { cls := .type "dict", data := .dict #[] } :=
    (Heap.get?_update_ne _ _ _ _ hxs.symm).trans (Heap.get?_push_at rfl rfl)
  have hnd : ((h.push { cls := .type "dict", data := .dict #[] }).update x fun o => { cls := o.cls, dict := some h.objs.size, data := o.data, slots := o.slots }).Ns h.objs.size (fun _ => none) :=
    ⟨_, #[], _, hgd, rfl, fun e he => absurd he (by simp), fun _ => rfl⟩
  show wpAny _ _ (storeInDict h.objs.size (.str name tk) name v) _ _ _
  unfold storeInDict newKeyGuard
  refine wpAny_bind (wpAny_pure (wpAny_bind (wpAny_nsSet1 (Heap.Ns1.of_empty hnd) fun h' hn' hs => ?_)))
  obtain ⟨oD, esD, epD, hoD, hdD, hcD⟩ := hn'.count (Within.cons name v Within.nil)
  refine wpAny_bind (wpAny_lookBehind hoD (by rw [hdD]; exact pastItsLine_dict (Nat.le_trans hcD (by rw [List.length_cons, List.length_nil, sizeLine_eq]; omega))) ?_)
  wp_walk
  obtain ⟨od, ho, hso⟩ := ns1_obj hn'
  refine hq h' od _ ?_ ho hso fun b o hbx hb => ?_
  · refine (hs.2 x hxs).trans (Heap.get?_update_self _ hx₁ ?_)
    have hfr := (Heap.get?_some_iff.mp hx).2
    cases dt <;> first | rfl | exact hfr
  · exact (hs.2 b (Nat.ne_of_lt (Heap.lt_size hb))).trans ((Heap.get?_update_ne _ _ _ _ hbx).trans (Heap.get?_push_of_some _ hb))
theorem store1_attr {Q : Unit → Shared → Prop} (SF : StoreFacts B bm sa owner)
    (hC : h.get? C = some (excClassObj nm q C N bs bm true sn sub ab col dd k0 k1 k2 k3 k5 newId)) (hn : h.Ns N mN) (hns : mN "__setattr__" = none) (hna : mN name = none)
    (hB : typeLookup (.type B) name = pure none) (hx : h.get? x = some { cls := .ref C, dict := none, data := dt, slots := sl }) (hnc : ∀ c, dt ≠ .cls c)
    (hq : ∀ h' od tk', h'.get? x = some { cls := .ref C, dict := some h.objs.size, data := dt, slots := sl } → h'.get? h.objs.size = some od → NsO od (fun y => if y = name then some v else none) →
      (∀ b o, b ≠ x → h.get? b = some o → h'.get? b = some o) → Q () ⟨h', g, d, tk', os⟩) :
    wpAny (model prog w) A (setAttr (.ref x) name v) Q E ⟨h, g, d, t, os⟩ := by
  have f3 := SF.slot.bind (.ref x)
  unfold setAttr callSpecial? specialOf
  repeat (any_goals (first | assumption | (with_reducible refine wpAny_loadPart_at hx ?_) | (with_reducible refine wpAny_typeLookup_exc hC hn SF.mro SF.slot.lookup ?_; rw [hns]) | wp_step))
  refine codeAny_call_builtin SF.slot.plain SF.entry (wpAny_check_sa SF hC hx rfl (store1_entry SF hC hn hna hB hx hnc fun h' od tk' e1 e2 e3 e4 => ?_))
  repeat (any_goals (first | assumption | wp_step))
  exact hq h' od tk' e1 e2 e3 e4
end
theorem ns_val {K : Frag} {h : Heap} {N : Addr} {mN : Str → Option Value} {n : Str} {v : Value} (X : K.In h) (G : h.Ns N mN) (e : nsIn K N n = some (some v)) : mN n = some v := by
  obtain ⟨o, es, ep, ho, hd, _, hf⟩ := G
  unfold nsIn at e
  split at e
  · rename_i c d es' n' sl q
    have hq := X _ _ q
    rw [ho] at hq
    cases hq
    cases hd
    split at e
    · rename_i en he
      cases e
      rw [← hf]
      unfold nsFind findBy
      rw [← Array.find?_toList, he]
      rfl
    · split at e <;> cases e
  · cases e
noncomputable abbrev exB : List Value := [.type "Exception", .type "BaseException", .type "object"]
inductive ExcC (K : Frag) (C N : Addr) : Prop where
  | mk (nm : _) (q : _) (bs : _) (sn : _) (sub : _) (ab : _) (col : _) (dd : _) (k0 : _) (k1 : _) (k2 : _) (k3 : _) (k5 : _) (h : K.lookup C = some (excClassObj nm q C N bs exB true sn sub ab col dd k0 k1 k2 k3 k5 "Exception.__new__"))
structure ExcK (K : Frag) (C N fI : Addr) : Prop where
  cls : ExcC K C N
  ok : nsOkIn K N = true
  init : nsIn K N "__init__" = some (some (.ref fI))
  fn : typeIn K (.ref fI) = some (.type "function")
  sa : nsIn K N "__setattr__" = some none
  ga : nsIn K N "__getattribute__" = some none
  gh : nsIn K N "__getattr__" = some none
  sy : nsIn K N "symbol" = some none
  da : nsIn K N "data" = some none
noncomputable abbrev exO (C tp : Addr) (od : Option Addr) (sl : Array (Option Value)) : Obj := { cls := .ref C, dict := od, data := .fields #[.ref tp, .none, .none, .none, .bool false, .none], slots := sl }
theorem ExcK.ns {K : Frag} {C N fI : Addr} {h : Heap} (Y : ExcK K C N fI) (X : K.In h) : h.Ns N (h.nsMap N) := .of_isNs (isNs_of_in X Y.ok)
section
variable {prog : Program} {w : World} {A : Around} {E : Value → Shared → Prop} {s : Shared} {K : Frag} {C N fI L e tp dx : Addr} {h₀ : Heap} {m : Str → Option Value} {news : Led} {sl : Array (Option Value)} {name : Str} {v : Value}
theorem exc_make {rest : List Value} {Q : Value → Shared → Prop} (Y : ExcK K C N fI) (F : Fr h₀ L s.heap m) (X : K.In h₀) (Nw : News h₀ L s.heap news)
    (h : ∀ e tp h', Fr h₀ L h' m → News h₀ L h' ((e, exO C tp none #[]) :: news) → (∀ q ∈ news, q.1 ≠ e) →
      wpAny (model prog w) (A.under (.builtin "type.__call__" ⟨.ref C :: rest, []⟩)) (call (.ref fI) (.ref e :: rest)) (fun r s' => r = .none ∧ Q (.ref e) s') E { s with heap := h' }) (hrest : rest.length ≤ sizeLine := by size_fits) :
    wpAny (model prog w) A (call (.ref C) rest) Q E s := by
  obtain ⟨hh, g, d, t, os⟩ := s
  have X' : K.In hh := X.keeps F.keep
  obtain ⟨nm, q, bs, sn, sub, ab, col, dd, k0, k1, k2, k3, k5, hc⟩ := Y.cls
  have hfn : (K.lookup fI).map (·.cls) = some (.type "function") := Y.fn
  obtain ⟨oI, hfI, hfc⟩ : ∃ oI, hh.get? fI = some oI ∧ oI.cls = .type "function" := by
    cases ho : K.lookup fI with
    | none => rw [ho] at hfn; cases hfn
    | some o => rw [ho] at hfn; exact ⟨o, X' _ _ ho, Option.some.inj hfn⟩
  refine wpAny_call_exc_init PySem.F.excBase_Exception (X' _ _ hc) (Y.ns X') (ns_val X' (Y.ns X') Y.init) hfI hfc (fun h' e hm => ?_) hrest
  obtain ⟨tp, he, _, _⟩ := hm.there
  have F' := F.keeps hm.keeps
  exact h e tp h' F' (News.more F' (fun q hq => ⟨hm.keeps _ _ (Nw q hq).1, (Nw q hq).2⟩) he (fun es n q => by cases q) (kts_none F.keep hm.new)) fun q hq z => by
    have := (Nw q hq).1
    rw [z, hm.new] at this
    cases this
theorem exc_set1 {Q : Unit → Shared → Prop} (Y : ExcK K C N fI) (hs1 : nsIn K N name = some none) (hs2 : typeLookup (.type "Exception") name = pure none) (F : Fr h₀ L s.heap m) (X : K.In h₀) (Nw : News h₀ L s.heap ((e, exO C tp none sl) :: news)) (hne : ∀ q ∈ news, q.1 ≠ e)
    (h : ∀ h' dx od tk', Fr h₀ L h' m → News h₀ L h' ((e, exO C tp (some dx) sl) :: (dx, od) :: news) → NsO od (fun y => if y = name then some v else none) → (∀ q ∈ news, q.1 ≠ dx) → dx ≠ e → Q () { s with heap := h', toks := tk' }) :
    wpAny (model prog w) A (setAttr (.ref e) name v) Q E s := by
  obtain ⟨hh, g, d, t, os⟩ := s
  have X' : K.In hh := X.keeps F.keep
  obtain ⟨nm, q, bs, sn, sub, ab, col, dd, k0, k1, k2, k3, k5, hc⟩ := Y.cls
  have hx := (Nw _ (.head _)).1
  refine store1_attr PySem.F.store_Exception (X' _ _ hc) (Y.ns X') (nsMap_none_of_in X' Y.ok Y.sa) (nsMap_none_of_in X' Y.ok hs1) hs2 hx (fun c q => by cases q) fun h' od tk' e1 e2 e3 e4 => ?_
  have hk : ∀ b o, h₀.get? b = some o → h'.get? b = some o := fun b o q => e4 b o (fun z => by rw [z, (Nw _ (.head _)).2.2] at q; cases q) (F.keep b o q)
  have hdL : hh.objs.size ≠ L := fun z => by
    obtain ⟨oL, _, _, hL, _⟩ := F.ns
    exact absurd (Heap.lt_size hL) (by rw [← z]; exact Nat.lt_irrefl _)
  have lt : ∀ q ∈ (e, exO C tp none sl) :: news, @LT.lt Nat _ q.1 hh.objs.size := fun q hq => Heap.lt_size (Nw q hq).1
  refine h h' _ od tk' ⟨?_, hk, F.above⟩ (fun q hq => ?_) e3 (fun q hq => Nat.ne_of_lt (lt q (.tail _ hq))) (Nat.ne_of_gt (lt _ (.head _)))
  · obtain ⟨oL, a1, a2, hL, a3⟩ := F.ns
    exact ⟨oL, a1, a2, e4 L oL (Ne.symm (Nw _ (.head _)).2.1) hL, a3⟩
  · rcases List.mem_cons.mp hq with rfl | hq
    · exact ⟨e1, (Nw _ (.head _)).2⟩
    · rcases List.mem_cons.mp hq with rfl | hq
      · exact ⟨e2, hdL, none_at_size F⟩
      · exact ⟨e4 _ _ (hne q hq) (Nw q (.tail _ hq)).1, (Nw q (.tail _ hq)).2⟩
theorem exc_set2 {Q : Unit → Shared → Prop} {od : Obj} {mA : Str → Option Value} {ns : List Str} (Y : ExcK K C N fI) (hs1 : nsIn K N name = some none) (hs2 : typeLookup (.type "Exception") name = pure none) (F : Fr h₀ L s.heap m) (X : K.In h₀) (Nw : News h₀ L s.heap ((e, exO C tp (some dx) sl) :: (dx, od) :: news)) (hne : ∀ q ∈ news, q.1 ≠ e) (hnd : ∀ q ∈ news, q.1 ≠ dx) (hde : dx ≠ e) (hod : NsO od mA)
    (h : ∀ h' od' tk', Fr h₀ L h' m → News h₀ L h' ((e, exO C tp (some dx) sl) :: (dx, od') :: news) → NsO od' (fun y => if y = name then some v else mA y) → Q () { s with heap := h', toks := tk' }) (hw : Within mA ns := by within_ways) (hsz : ns.length ≤ sizeLine := by size_fits) :
    wpAny (model prog w) A (setAttr (.ref e) name v) Q E s := by
  obtain ⟨hh, g, d, t, os⟩ := s
  have X' : K.In hh := X.keeps F.keep
  obtain ⟨nm, q, bs, sn, sub, ab, col, dd, k0, k1, k2, k3, k5, hc⟩ := Y.cls
  have hx := (Nw _ (.head _)).1
  have hd := (Nw _ (.tail _ (.head _))).1
  have hCe : e ≠ C := fun z => by
    have := (Nw _ (.head _)).2.2
    rw [show (e, exO C tp (some dx) sl).1 = C from z, X _ _ hc] at this
    cases this
  refine store_attr PySem.F.store_Exception (X' _ _ hc) (Y.ns X') (nsMap_none_of_in X' Y.ok Y.sa) (nsMap_none_of_in X' Y.ok hs1) hs2 hCe ⟨_, hx, rfl, fun c q => (by cases q), .inr ⟨dx, rfl, hde, hod.here hd⟩⟩ (fun h' tk' I e4 e5 => ?_) hw hsz
  obtain ⟨o₁, f1, f2, f3, f4, f5⟩ := e5 _ hx
  have ho₁ : o₁ = exO C tp (some dx) sl := by
    obtain ⟨c1, c2, c3, c4⟩ := o₁
    have : c2 = some dx := f5 dx rfl
    dsimp only at f2 f3 f4
    rw [f2, f3, f4, this]
  rw [ho₁] at f1
  obtain ⟨o₂, g1, _, _, g2⟩ := I
  rw [f1] at g1
  cases g1
  rcases g2 with ⟨g2, _⟩ | ⟨dx', g2, _, g3⟩
  · cases g2
  obtain rfl : dx = dx' := Option.some.inj g2
  obtain ⟨od', hod', hns'⟩ := ns1_obj g3
  have e4' : ∀ b o, b ≠ e → b ≠ dx → hh.get? b = some o → h'.get? b = some o := fun b o n1 n2 q => e4 b o n1 (fun o₀ dx₀ q1 q2 => by
    rw [hx] at q1
    cases q1
    rw [← Option.some.inj q2]
    exact n2) q
  have new : ∀ b o, h₀.get? b = some o → b ≠ e ∧ b ≠ dx := fun b o q => ⟨fun z => (by rw [z, (Nw _ (.head _)).2.2] at q; cases q), fun z => (by rw [z, (Nw _ (.tail _ (.head _))).2.2] at q; cases q)⟩
  refine h h' od' tk' ⟨?_, fun b o q => e4' b o (new b o q).1 (new b o q).2 (F.keep b o q), F.above⟩ (fun q hq => ?_) hns'
  · obtain ⟨oL, a1, a2, hL, a3⟩ := F.ns
    exact ⟨oL, a1, a2, e4' L oL (Ne.symm (Nw _ (.head _)).2.1) (Ne.symm (Nw _ (.tail _ (.head _))).2.1) hL, a3⟩
  · rcases List.mem_cons.mp hq with rfl | hq
    · exact ⟨f1, (Nw _ (.head _)).2⟩
    · rcases List.mem_cons.mp hq with rfl | hq
      · exact ⟨hod', (Nw _ (.tail _ (.head _))).2⟩
      · exact ⟨e4' _ _ (hne q hq) (hnd q hq) (Nw q (.tail _ (.tail _ hq))).1, (Nw q (.tail _ (.tail _ hq))).2⟩
end
section
variable {prog : Program} {w : World} {A : Around} {E : Value → Shared → Prop} {h : Heap} {g : Array GenState} {d : Drawn} {t : Nat} {os : OsState} {a dx : Addr} {vs : Array Value} {sl : Array (Option Value)}
  {nm q : Str} {C N : Addr} {bs : List Value} {sn : List Str} {sub : List Value} {ab : Bool} {col : Option Bool} {dd : Option Addr} {k0 k1 k2 k3 k5 : Option Value} {newId : String} {mN mA : Str → Option Value} {name : Str} {v : Value}
theorem load_ent {tk : Tok} {Q : Fin → Shared → Prop} (hC : h.get? C = some (excClassObj nm q C N bs exB true sn sub ab col dd k0 k1 k2 k3 k5 newId)) (hN : h.Ns N mN) (hna : mN name = none) (hB : typeLookup (.type "Exception") name = pure none)
    (hx : h.get? a = some { cls := .ref C, dict := some dx, data := .fields vs, slots := sl }) (hd : h.Ns dx mA) (hv : mA name = some v) (hq : Q (.done (.ret v)) ⟨h, g, d, t, os⟩) :
    wpAny (model prog w) A (Builtin.«object.__getattribute__» ⟨[.ref a, .str name tk], []⟩) Q E ⟨h, g, d, t, os⟩ := by
  have FB := PySem.F.attrBase_Exception
  unfold Builtin.«object.__getattribute__»
  repeat (any_goals (first | assumption | (with_reducible refine wpAny_loadPart_at hx ?_) | (with_reducible refine wpAny_typeLookup_exc hC hN FB.mro hB ?_; rw [hna]) | (with_reducible refine wpAny_nsGet hd ?_; rw [hv]) | wp_step))
theorem load_chk {M : Model} {nameV : Value} {Q : Unit → Shared → Prop} (hC : h.get? C = some (excClassObj nm q C N bs exB true sn sub ab col dd k0 k1 k2 k3 k5 newId))
    (hx : h.get? a = some { cls := .ref C, dict := some dx, data := .fields vs, slots := sl }) (hq : Q () ⟨h, g, d, t, os⟩) : wpAny M A (checkBuiltinCall "BaseException.__getattribute__" ⟨[.ref a, nameV], []⟩) Q E ⟨h, g, d, t, os⟩ := by
  have hk : builtinKind "BaseException.__getattribute__" = some .slot := by decide +kernel
  have hsplit : splitId "BaseException.__getattribute__" = some ("BaseException", "__getattribute__") := by decide +kernel
  have hcB : (Value.ref C :: exB).contains (.type "BaseException") = true := by rw [List.contains_cons, show exB.contains (.type "BaseException") = true from by decide +kernel, Bool.or_true]
  have ha := PySem.F.args_bexc_ga (.ref a) nameV
  simp only [checkBuiltinCall, hk, hsplit]
  refine wpAny_bind ?_
  · unfold isInstance
    repeat (first | (with_reducible refine wpAny_loadPart_at hx ?_) | (with_reducible refine wpAny_isSubtype_exc hC ?_; rw [hcB]) | wp_step)
    exact hq
theorem load_by {tk : Tok} {fill expr : Bool} {Q : Value → Shared → Prop} (hC : h.get? C = some (excClassObj nm q C N bs exB true sn sub ab col dd k0 k1 k2 k3 k5 newId)) (hN : h.Ns N mN) (hga : mN "__getattribute__" = none) (hgh : mN "__getattr__" = none) (hna : mN name = none) (hB : typeLookup (.type "Exception") name = pure none)
    (hx : h.get? a = some { cls := .ref C, dict := some dx, data := .fields vs, slots := sl }) (hd : h.Ns dx mA) (hv : mA name = some v) (hh : handedOut v = pure v) (hq : Q v ⟨h, g, d, t, os⟩) :
    wpAny (model prog w) A (getAttrBy (.ref a) (.str name tk) fill expr) Q E ⟨h, g, d, t, os⟩ := by
  have FB := PySem.F.attrBase_Exception
  have f3 := FB.ga.bind (.ref a)
  have hx0 : (expr && onTheHeap (Value.builtin "BaseException.__getattribute__")) = false := by cases expr <;> rfl
  have hx2 : (Value.builtin "BaseException.__getattribute__" == Value.builtin "object.__getattribute__") = false := by decide +kernel
  have hx1 : (onTheHeap (Value.ref C) && Value.builtin "BaseException.__getattribute__" == Value.builtin "object.__getattribute__") = false := by rw [hx2]; rfl
  unfold getAttrBy
  repeat (any_goals (first | assumption | (with_reducible refine wpAny_loadPart_at hx ?_) | (with_reducible refine wpAny_typeLookup_exc hC hN FB.mro FB.ga.lookup ?_; rw [hga]) | (with_reducible refine wpAny_typeLookup_exc hC hN FB.mro FB.noGetattr ?_; rw [hgh]) | wp_step))
  refine codeAny_call_builtin FB.ga.plain PySem.F.entry_bexc_ga (load_chk hC hx (load_ent hC hN hna hB hx hd hv ?_))
  repeat (any_goals (first | assumption | rw [hh] | wp_step))
end
section
variable {prog : Program} {w : World} {A : Around} {E : Value → Shared → Prop} {s : Shared} {K : Frag} {C N fI L e dx : Addr} {h₀ : Heap} {m : Str → Option Value} {news : Led} {sl : Array (Option Value)} {vs : Array Value} {name : Str} {v : Value} {od : Obj} {mA : Str → Option Value}
theorem exc_get {expr : Bool} {Q : Value → Shared → Prop} (Y : ExcK K C N fI) (hs1 : nsIn K N name = some none) (hs2 : typeLookup (.type "Exception") name = pure none) (F : Fr h₀ L s.heap m) (X : K.In h₀) (Nw : News h₀ L s.heap news)
    (he : (e, ({ cls := .ref C, dict := some dx, data := .fields vs, slots := sl } : Obj)) ∈ news) (hd : (dx, od) ∈ news) (hod : NsO od mA) (hv : mA name = some v) (hh : handedOut v = pure v) (h : ∀ tk, Q v { s with toks := tk }) :
    wpAny (model prog w) A (getAttr (.ref e) name expr) Q E s := by
  obtain ⟨hp, g, d, t, os⟩ := s
  have X' : K.In hp := X.keeps F.keep
  obtain ⟨nm, q, bs, sn, sub, ab, col, dd, k0, k1, k2, k3, k5, hc⟩ := Y.cls
  have hx : hp.get? e = some { cls := .ref C, dict := some dx, data := .fields vs, slots := sl } := (Nw _ he).1
  have hd' : hp.Ns dx mA := (hod.here (Nw _ hd).1).ns
  have hq := h (t + 1)
  unfold getAttr
  refine wpAny_bind (wpAny_mkText ?_)
  exact load_by (X' _ _ hc) (Y.ns X') (nsMap_none_of_in X' Y.ok Y.ga) (nsMap_none_of_in X' Y.ok Y.gh) (nsMap_none_of_in X' Y.ok hs1) hs2 hx hd' hv hh hq
end
def RaiseEnd (K : Frag) (C : Addr) (E : Value → Shared → Prop) (v : Value) (s : Shared) : Prop :=
  ∃ e od vs sl, v = .ref e ∧ K.In s.heap ∧ s.heap.get? e = some { cls := .ref C, dict := od, data := .fields vs, slots := sl } ∧ vs[1]? = some .none ∧ E (.ref e) s
theorem raise_K {M : Model} {A : Around} {E : Value → Shared → Prop} {env : Env} {s : Shared} {K : Frag} {C N fI : Addr} {x : Expr} {pos : Pos} {Q : Flow → Shared → Prop} (Y : ExcK K C N fI) (hh : A.handled = none)
    (h : wpAny M A (eval x env) (RaiseEnd K C E) E s) : wpAny M A (exec (.Raise (some x) none pos) env) Q E s := by
  obtain ⟨nm, q, bs, sn, sub, ab, col, dd, k0, k1, k2, k3, k5, hc⟩ := Y.cls
  refine raise_exec (C := C) (nm := nm) (q := q) (N := N) (bs := bs) (bm := exB) (hdct := true) (sn := sn) (sub := sub) (ab := ab) (col := col) (dd := dd) (k0 := k0) (k1 := k1) (k2 := k2) (k3 := k3) (k5 := k5) (newId := "Exception.__new__") (by decide +kernel) hh ?_
  refine wpAny_mono h (fun v s₁ h₁ => ?_) fun _ _ x => x
  obtain ⟨e, od, vs, sl, hv, X, he, h1, hE⟩ := h₁
  exact ⟨e, od, vs, sl, hv, X _ _ hc, he, h1, hE⟩
noncomputable abbrev excM (x : Str) (t : Tok) (lst : Addr) : Str → Option Value := fun y => if y = Str.ofString "data" then some (.ref lst) else (fun y => if y = Str.ofString "symbol" then some (.str x t) else none) y
inductive SigIn (msg : Str) (g n : Int) (dx : Addr) (nw : Led) : Prop where
  | mk  (od : Obj) (lst : Addr) (t t1 t2 t3 : Tok) (c : Nat) (q1 : (dx, od) ∈ nw) (q2 : NsO od (excM (Str.ofString "scan-error") t lst)) (q3 : (lst, listOf [.str msg t1, .int g t2, .int n t3].toArray c) ∈ nw)
theorem SigIn.mono {msg : Str} {g n : Int} {dx : Addr} {nw nw' : Led} (x : SigIn msg g n dx nw) (hs : ∀ q ∈ nw, q ∈ nw') : SigIn msg g n dx nw' := by
  obtain ⟨od, lst, t, t1, t2, t3, c, a1, a2, a3⟩ := x
  exact ⟨od, lst, t, t1, t2, t3, c, hs _ a1, a2, hs _ a3⟩
structure GivesR (w : World) (f : Addr) (d : Nat) (vs : List Value) (news kp : Led) (R : Value → Led → Prop) (Er : Str → Int → Int → Prop) : Prop where
  run : ∀ (p : Program) (loose : List Str) (mean : ExcName → Option Value) (mg mb : Str → Option Value)
    (dp un : Nat) (gd : Option (List Code)) (cn : Str) (cs : Scope) (a : Addr) (ccd : Value) (cl : List (Str × Addr)) (outer : List Env)
    (A₀ : Around) (base h₀ : Heap) (L : Addr) (m : Str → Option Value) (s : Shared) (Q E : Value → Shared → Prop),
    Below A₀ base outer h₀ → Fr h₀ L s.heap m → (Mine.T.heap_1 w.params).In h₀ → News h₀ L s.heap news → Top p loose mean mg mb h₀ → cs.kind = .function →
    dp + d < recursionLimit → un + 8 * d < cLine →
    (∀ r news' h' tk', R r news' → Fr h₀ L h' m → News h₀ L h' news' → Q r { s with heap := h', toks := tk' }) →
    (∀ e dx news' G h' tk' msg g n, Er msg g n → SigIn msg g n dx news' → (∀ q ∈ kp, q ∈ news') → Fr h₀ L G m → Rsd base G (envX cn cs L a ccd cl :: outer) e (some dx) news' h' → G.UpToSlots h' → E (.ref e) { s with heap := h', toks := tk' }) →
    wpAny (model PR w) (ktrTop dp un gd cn cs L a ccd cl outer) (call (.ref f) vs) Q E s
theorem GivesR.use {w : World} {f : Addr} {d : Nat} {vs : List Value} {news kp : Led} {R : Value → Led → Prop} {Er : Str → Int → Int → Prop}
    {p : Program} {loose : List Str} {mean : ExcName → Option Value} {mg mb : Str → Option Value}
    {dp un : Nat} {gd : Option (List Code)} {cn : Str} {cs : Scope} {a : Addr} {ccd : Value} {cl : List (Str × Addr)} {outer : List Env}
    {A₀ : Around} {base h₀ : Heap} {L : Addr} {m : Str → Option Value} {s : Shared} {Q E : Value → Shared → Prop}
    (G : GivesR w f d vs news kp R Er)
    (B : Below A₀ base outer h₀) (F : Fr h₀ L s.heap m) (X : (Mine.T.heap_1 w.params).In h₀) (N : News h₀ L s.heap news) (T : Top p loose mean mg mb h₀) (hk : cs.kind = .function)
    (hd : dp + d < recursionLimit) (hu : un + 8 * d < cLine)
    (hret : ∀ r news' h' tk', R r news' → Fr h₀ L h' m → News h₀ L h' news' → Q r { s with heap := h', toks := tk' })
    (hesc : ∀ e dx news' G h' tk' msg g n, Er msg g n → SigIn msg g n dx news' → (∀ q ∈ kp, q ∈ news') → Fr h₀ L G m → Rsd base G (envX cn cs L a ccd cl :: outer) e (some dx) news' h' → G.UpToSlots h' → E (.ref e) { s with heap := h', toks := tk' }) :
    wpAny (model PR w) (ktrTop dp un gd cn cs L a ccd cl outer) (call (.ref f) vs) Q E s :=
  G.run p loose mean mg mb dp un gd cn cs a ccd cl outer A₀ base h₀ L m s Q E B F X N T hk hd hu hret hesc
theorem GivesR.useM {w : World} {f : Addr} {dd : Nat} {vs : List Value} {nw kp : Led} {R : Value → Led → Prop} {Er : Str → Int → Int → Prop}
    {p' : Program} {loose : List Str} {mean : ExcName → Option Value} {mg mb : Str → Option Value}
    {dp un : Nat} {gd : Option (List Code)} {cn : Str} {cs' : Scope} {a' : Addr} {ccd : Value} {cl : List (Str × Addr)} {outer : List Env}
    {A₀ : Around} {base h₀ : Heap} {L : Addr} {m : Str → Option Value} {hp : Heap} {gs : Array GenState} {dr : Drawn} {tk : Nat} {os : OsState} {Q E : Value → Shared → Prop}
    (G : GivesR w f dd vs nw kp R Er)
    (B : Below A₀ base outer h₀) (F : Fr h₀ L hp m) (X : (Mine.T.heap_1 w.params).In h₀) (N : News h₀ L hp nw) (T : Top p' loose mean mg mb h₀) (hk : cs'.kind = .function)
    (hd : dp + dd < recursionLimit) (hu : un + 8 * dd < cLine)
    (hret : ∀ r news' h' tk', R r news' → Fr h₀ L h' m → News h₀ L h' news' → Q r ⟨h', gs, dr, tk', os⟩)
    (hesc : ∀ e dx news' G h' tk' msg g n, Er msg g n → SigIn msg g n dx news' → (∀ q ∈ kp, q ∈ news') → Fr h₀ L G m → Rsd base G (envX cn cs' L a' ccd cl :: outer) e (some dx) news' h' → G.UpToSlots h' → E (.ref e) ⟨h', gs, dr, tk', os⟩) :
    wpAny (model PR w) (ktrTop dp un gd cn cs' L a' ccd cl outer) (call (.ref f) vs) Q E ⟨hp, gs, dr, tk, os⟩ :=
  G.run p' loose mean mg mb dp un gd cn cs' a' ccd cl outer A₀ base h₀ L m ⟨hp, gs, dr, tk, os⟩ Q E B F X N T hk hd hu hret hesc
theorem GivesR.useScB {w : World} {f : Addr} {dd : Nat} {vs : List Value} {nw kp : Led} {Er : Str → Int → Int → Prop} {Bp : Prop} {sc sd v tb : Addr} {x d l g : Int} {b : Bool} {news : Led}
    {p' : Program} {loose : List Str} {mean : ExcName → Option Value} {mg mb : Str → Option Value}
    {dp un : Nat} {gd : Option (List Code)} {cn : Str} {cs' : Scope} {a' : Addr} {ccd : Value} {cl : List (Str × Addr)} {outer : List Env}
    {A₀ : Around} {base h₀ : Heap} {L : Addr} {m : Str → Option Value} {hp : Heap} {gs : Array GenState} {dr : Drawn} {tk : Nat} {os : OsState} {Q E : Value → Shared → Prop}
    (G : GivesR w f dd vs nw kp (ScRB Bp sc sd v tb x d l g b news) Er)
    (B : Below A₀ base outer h₀) (F : Fr h₀ L hp m) (X : (Mine.T.heap_1 w.params).In h₀) (N : News h₀ L hp nw) (T : Top p' loose mean mg mb h₀) (hk : cs'.kind = .function)
    (hd : dp + dd < recursionLimit) (hu : un + 8 * dd < cLine)
    (hret : ∀ o h' tk', Bp → ScIn v tb x d l g b o → Fr h₀ L h' m → News h₀ L h' (scL o sc sd news) → Q .none ⟨h', gs, dr, tk', os⟩)
    (hesc : ∀ e dx news' G h' tk' msg g n, Er msg g n → SigIn msg g n dx news' → (∀ q ∈ kp, q ∈ news') → Fr h₀ L G m → Rsd base G (envX cn cs' L a' ccd cl :: outer) e (some dx) news' h' → G.UpToSlots h' → E (.ref e) ⟨h', gs, dr, tk', os⟩) :
    wpAny (model PR w) (ktrTop dp un gd cn cs' L a' ccd cl outer) (call (.ref f) vs) Q E ⟨hp, gs, dr, tk, os⟩ :=
  G.run p' loose mean mg mb dp un gd cn cs' a' ccd cl outer A₀ base h₀ L m ⟨hp, gs, dr, tk, os⟩ Q E B F X N T hk hd hu (fun r n' h' tk' hr F' N' => by
    obtain ⟨hb, rfl, o, rfl, h1⟩ := hr
    exact hret o h' tk' hb h1 F' N') hesc
def LeaveT (K : Frag) (p : Program) (loose : List Str) (mean : ExcName → Option Value) (mg mb : Str → Option Value) (A₀ : Around) (base : Heap) (env : Env) (outer : List Env) (h₀ : Heap) (L : Addr) (m : Str → Option Value) (g : Heap) (R : Result → Shared → Prop) (v : Value) (s' : Shared) : Prop :=
  ∃ g' L' m' news', KtsTurn ((env :: outer).filterMap (·.frame)) g g' ∧ Fr g' L' s'.heap m' ∧ News g' L' s'.heap news' ∧
    ∀ h₁, KtsTurn (outer.filterMap (·.frame)) h₀ h₁ → Fr h₁ L s'.heap m → News h₁ L s'.heap news' → Below A₀ base outer h₁ → K.In h₁ → Top p loose mean mg mb h₁ → KtsDicts (outer.filterMap (·.frame)) h₁ → R (.ok (.ret v)) s'
section
variable {prog : Program} {w : World} {A₀ A : Around} {s : Shared} {base h₀ : Heap} {outer : List Env} {L : Addr} {m : Str → Option Value} {env : Env} {news : Led} {K : Frag} {p : Program} {loose : List Str} {mean : ExcName → Option Value} {mg mb : Str → Option Value}
  {R : Result → Shared → Prop} {name qual : Str} {params : Arguments} {body : List Stmt} {scope : Scope} {dV kV doc pm cdv ct oc : Value} {an od : Option Addr} {osl : Array (Option Value)} {f : Addr} {args : Args}
theorem groundT (B : Below A₀ base outer h₀) (F : Fr h₀ L s.heap m) (N : News h₀ L s.heap news) (XB : K.In base) (TB : Top p loose mean mg mb base) (D : KtsDicts (outer.filterMap (·.frame)) h₀) (hA : A.frames = some (env :: outer)) (hf : env.frame = some L) (hke : env.scope.kind = .function) :
    Fr h₀ L (hideAll s.heap (news.map (·.1))) m ∧ Below A base (env :: outer) (hideAll s.heap (news.map (·.1))) ∧ h₀.StaysIn (hideAll s.heap (news.map (·.1))) ∧ KtsDicts ((env :: outer).filterMap (·.frame)) (hideAll s.heap (news.map (·.1))) ∧
      ∀ v s', LeaveT K p loose mean mg mb A₀ base env outer h₀ L m (hideAll s.heap (news.map (·.1))) R v s' → R (.ok (.ret v)) s' := by
  obtain ⟨FG, BG, st, _⟩ := groundX (R := fun _ _ => True) B F N hA hf hke
  obtain ⟨oL, es, ep, hLg, hLd, hLk, hLf⟩ := id FG.ns
  refine ⟨FG, BG, st, fun b hb => ?_, fun v s' hl => ?_⟩
  · rcases mem_frames hf hb with rfl | hb
    · exact ⟨oL, es, ep, hLg, hLd⟩
    · obtain ⟨o, es', n', ho', hd'⟩ := D b hb
      exact ⟨o, es', n', st b o ho', hd'⟩
  · obtain ⟨g', L', m', news', T', F', N', k⟩ := hl
    have nL : h₀.get? L = none := kts_self F
    obtain ⟨sl, hs⟩ := T'.up hLg
    obtain ⟨T₁, S₁⟩ := kts_turn_at (h := s'.heap) (fs := outer.filterMap (·.frame)) (g := h₀)
      (fun b hb => by
        obtain ⟨_, o, ho', _⟩ := B.frames.mem hb
        exact ⟨o, ho'⟩)
      (fun b o e nmem => F'.keep b o (T'.other b o (st b o e) (fun q => by
        rcases mem_frames hf q with z | z
        · rw [z, nL] at e
          cases e
        · exact nmem z)))
      (fun b o e hm => by
        obtain ⟨sl', hs'⟩ := T'.up (st b o e)
        exact ⟨sl', F'.keep _ _ hs'⟩)
    have B₃ : Below A₀ base outer (ktsHeap s'.heap (outer.filterMap (·.frame)) h₀) := ⟨B.stack, fun b o e => T₁.other b o (B.stays b o e) (fun hm => by
      rw [(B.frames.mem hm).1] at e
      cases e), B.frames.of_keeps fun b o e _ => by
      obtain ⟨sl', hs'⟩ := T₁.up e
      exact ⟨_, hs', rfl⟩⟩
    refine k _ T₁ ⟨⟨_, es, ep, F'.keep _ _ hs, hLd, hLk, hLf⟩, S₁, by rw [T₁.size]; exact F.above⟩ (fun q hq => ⟨(N' q hq).1, fun z => ?_, ?_⟩) B₃ (XB.keeps B₃.stays) (TB.keeps B₃.stays) (D.turn T₁)
    · have := (N' q hq).2.2
      rw [z, hs] at this
      cases this
    · refine T₁.none_ _ ?_
      cases z : h₀.get? q.1 with
      | none => rfl
      | some o =>
        obtain ⟨sl', hs'⟩ := T'.up (st _ _ z)
        have := (N' q hq).2.2
        rw [hs'] at this
        cases this
theorem code_defT (ps : List (Str × Value)) (B : Below A₀ base outer h₀) (F : Fr h₀ L s.heap m) (X₀ : K.In h₀) (N : News h₀ L s.heap news) (T : Top p loose mean mg mb h₀) (XB : K.In base) (TB : Top p loose mean mg mb base) (D : KtsDicts (outer.filterMap (·.frame)) h₀)
    (hA : A.frames = some (env :: outer)) (hf : env.frame = some L) (hke : env.scope.kind = .function)
    (ho : K.lookup f = some ⟨oc, od, .func (fnOf name qual params body scope dV kV doc pm an cdv ct), osl⟩) (hcd : codeIn K cdv qual = true) (hroom : A.depth < recursionLimit)
    (hbind : BindsTo s (fnOf name qual params body scope dV kV doc pm an cdv ct) args ps.reverse) (hloc : ∀ y ∈ ps.reverse, scope.names.lookup y.1 = some .local)
    (h : ∀ g L' h₁, Fr h₀ L g m → Fr g L' h₁ (kstB (fun _ => none) ps) → News g L' h₁ news → Below A base (env :: outer) g → K.In g → Top p loose mean mg mb g → KtsDicts ((env :: outer).filterMap (·.frame)) g →
      wpAny (model prog w) (A.deeper (envOf qual scope L' f cdv)) (execs body (envOf qual scope L' f cdv))
        (fun fl s' => LeaveT K p loose mean mg mb A₀ base env outer h₀ L m g R (match fl with | .ret v => v | _ => .none) s')
        (fun e s' => wpAny (model prog w) (A.deeper (envOf qual scope L' f cdv)) (leaving (envOf qual scope L' f cdv) e) (fun _ s'' => R (.error e) s'') (fun e' s'' => R (.error e') s'') s')
        { s with heap := h₁, toks := s.toks + ps.length })
    (hco : scope.isCoroutine = false) (hgen : scope.isGenerator = false) (hk : scope.kind = .function)
    (hcell : ∀ x ∈ scope.names, x.2 ≠ .cell) : codeAny (model prog w) A (.call (.ref f) args) R s := by
  have X := X₀.keeps F.keep
  obtain ⟨FG, BG, st, DG, lv⟩ := groundT (K := K) (R := R) B F N XB TB D hA hf hke
  refine codeAny_call_def (fd := fnOf name qual params body scope dV kV doc pm an cdv ct) (body := body) (binds := ps.reverse) hroom (X _ _ ho) rfl (T.nolimit.keeps F.keep) (codeRec_of X hcd) rfl hbind hcell hloc (fun h₁ hns hk₁ => ?_) hco hgen hk
  rw [List.reverse_reverse, look_k] at hns
  rw [List.length_reverse]
  exact wpAny_mono (h _ s.heap.objs.size h₁ FG ⟨hns, fun b o e => hk₁ b o (of_hideAll _ e), Nat.le_of_eq (hideAll_size _ _)⟩
    (fun q hq => ⟨hk₁ _ _ (N q hq).1, Nat.ne_of_lt (Heap.lt_size (N q hq).1), hideAll_none _ (List.mem_map_of_mem hq)⟩) BG (X₀.keeps st) (T.keeps st) DG) (fun fl s' hl => lv _ _ hl) fun _ _ y => y
end
structure GivesT (w : World) (f : Addr) (d : Nat) (vs : List Value) (news : Led) (R : Value → Led → Prop) : Prop where
  run : ∀ (p : Program) (loose : List Str) (mean : ExcName → Option Value) (mg mb : Str → Option Value)
    (dp un : Nat) (gd : Option (List Code)) (cn : Str) (cs : Scope) (a : Addr) (ccd : Value) (cl : List (Str × Addr)) (outer : List Env)
    (A₀ : Around) (base h₀ : Heap) (L : Addr) (m : Str → Option Value) (s : Shared) (Q E : Value → Shared → Prop),
    Below A₀ base outer h₀ → Fr h₀ L s.heap m → (Mine.T.heap_1 w.params).In h₀ → News h₀ L s.heap news → Top p loose mean mg mb h₀ → (Mine.T.heap_1 w.params).In base → Top p loose mean mg mb base → KtsDicts (outer.filterMap (·.frame)) h₀ → cs.kind = .function →
    dp + d < recursionLimit → un + 8 * d < cLine →
    (∀ r news' h' tk' h₁, R r news' → KtsTurn (outer.filterMap (·.frame)) h₀ h₁ → Fr h₁ L h' m → News h₁ L h' news' → Below A₀ base outer h₁ → (Mine.T.heap_1 w.params).In h₁ → Top p loose mean mg mb h₁ → KtsDicts (outer.filterMap (·.frame)) h₁ → Q r { s with heap := h', toks := tk' }) →
    wpAny (model PR w) (ktrTop dp un gd cn cs L a ccd cl outer) (call (.ref f) vs) Q E s
section
variable {prog : Program} {w : World} {A₀ : Around} {E : Value → Shared → Prop} {s' : Shared} {base g G : Heap} {outer : List Env} {L a e dx : Addr} {m : Str → Option Value} {name : Str} {scope : Scope} {cd : Value}
  {n x : Str} {b₀ : Stmt} {suite : List Stmt} {pos np : Pos} {rest : List ExceptHandler} {Q : Flow → Shared → Prop} {news : Led} {KF : Frag} {N9 fI : Addr}
  {p : Program} {loose : List Str} {mean : ExcName → Option Value} {mg mb : Str → Option Value}
theorem caughtD (Y : ExcK KF 129 N9 fI) (R : Rsd base G (envOf name scope L a cd :: outer) e (some dx) news s'.heap) (F : Fr g L G m) (K : Below A₀ base outer g) (hsm : G.UpToSlots s'.heap) (XB : KF.In base) (TB : Top p loose mean mg mb base)
    (D : KtsDicts (outer.filterMap (·.frame)) g) (ex : nsIn KF mainGlobals x = some (some (.ref 129)))
    (k : ∀ h' g' tk vs sl, KtsTurn (outer.filterMap (·.frame)) g g' → Fr g' L h' (fun y => if y = n then some (.ref e) else m y) → News g' L h' ((e, { cls := .ref 129, dict := some dx, data := .fields vs, slots := sl }) :: news) → Below A₀ base outer g' → KF.In g' → Top p loose mean mg mb g' → KtsDicts (outer.filterMap (·.frame)) g' →
      wpAny (model prog w) ((A₀.deeper (envOf name scope L a cd)).mark (some (.ref e))) (execs (b₀ :: suite) (envOf name scope L a cd))
        (fun f s₄ => wpAny (model prog w) (A₀.deeper (envOf name scope L a cd)) (do bindName (envOf name scope L a cd) n .none; unbindBehindTheSuite (envOf name scope L a cd) n pos) (fun _ s₅ => Q f s₅) E s₄)
        (AsSuiteRaised (model prog w) ((A₀.deeper (envOf name scope L a cd)).mark (some (.ref e))) (envOf name scope L a cd) n pos (notedBy (model prog w) ((A₀.deeper (envOf name scope L a cd)).mark (some (.ref e))) (envOf name scope L a cd) (cameBackBy (model prog w) (A₀.deeper (envOf name scope L a cd)) (envOf name scope L a cd) E)))
        { s' with heap := h', toks := tk })
    (hk : scope.kind = .function) (hlo : (envOf name scope L a cd).kindOf n = some .local) (hx : (envOf name scope L a cd).kindOf x = some .globalImplicit) (hd : (x == ("__debug__" : Str)) = false) :
    wpAny (model prog w) (A₀.deeper (envOf name scope L a cd)) (noteFrame (.ref e) (envOf name scope L a cd))
      (fun _ s₂ => wpAny (model prog w) (A₀.deeper (envOf name scope L a cd)) (setFlight (.ref e) none) (fun _ s₃ =>
        wpAny (model prog w) (A₀.deeper (envOf name scope L a cd)) (handleBy (.ref e) (envOf name scope L a cd) (.ExceptHandler (some (.Name x np)) (some n) (b₀ :: suite) pos :: rest)) Q E s₃) E s₂) E s' := by
  obtain ⟨B, hB, hBG, hl, hfl⟩ := R
  have hL : B.get? L = none := by
    obtain ⟨_, ⟨L', _, hf, hn', _⟩, _⟩ := hfl.frames
    obtain rfl : L = L' := Option.some.inj hf
    exact hn'
  refine fly_next (Around.frames_deeper K.stack) rfl hfl fun h₄ x₄ u₄ => ?_
  refine fly_off x₄ fun h₅ x₅ u₅ => ?_
  have hsm₅ := u₄.trans u₅
  obtain ⟨g₅, T₅, F₅, K₅⟩ := kts_ground K F hBG x₅.stays (hsm.trans hsm₅)
  have X₅ : KF.In g₅ := XB.keeps K₅.stays
  have P₅ : TopRead p loose mg mb g₅ := topRead_of (TB.keeps K₅.stays)
  obtain ⟨vs, sl, T, oT, ts, hob, _⟩ := id x₅.tb
  obtain ⟨nm, q, bs, sn, sub, ab, col, dd, k0, k1, k2, k3, k5, hc⟩ := Y.cls
  have hC₅ := F₅.keep _ _ (X₅ _ _ hc)
  refine wpAny_handleBy_cons (codeAny_handlers_test (name_K F₅ X₅ P₅ ex ?_ hk hx hd)) (by intro q; cases q)
  refine wpAny_excMatches_sub_self hC₅ hob rfl (by decide +kernel) (codeAny_handlers_suite_as ?_)
  refine fly_off x₅ fun h₆ x₆ u₆ => ?_
  obtain ⟨g₆, T₆, F₆, K₆⟩ := kts_ground K F hBG x₆.stays ((hsm.trans hsm₅).trans u₆)
  obtain ⟨vs, sl, T, oT, ts, hoe, _⟩ := id x₆.tb
  have ne₆ : g₆.get? e = none := T₆.none_ _ (kts_fresh F hBG x₆.new fun o ho m => by
    obtain ⟨_, o', ho', hd⟩ := K.frames.mem m
    rw [ho] at ho'
    cases ho'
    obtain ⟨sl, hs⟩ := ((hsm.trans hsm₅).trans u₆) _ _ (F.keep _ _ ho) hd
    rw [hoe] at hs
    have e1 : Data.fields vs = o.data := congrArg Obj.data (Option.some.inj hs)
    exact hd _ e1.symm)
  have Nl : News g₆ L h₆ news := fun q hq => ⟨x₆.stays _ _ (hl q hq).1, (fun z => by have := (hl q hq).1; rw [z, hL] at this; cases this), T₆.none_ _ (kts_none F.keep (hl q hq).2.1)⟩
  have N₆ := News.more F₆ Nl hoe (fun es n q => by cases q) ne₆
  refine stN F₆ N₆ (fun h₇ F₇ N₇ => ?_) hk hlo
  exact k h₇ g₆ _ _ _ T₆ F₇ N₇ K₆ (XB.keeps K₆.stays) (TB.keeps K₆.stays) (D.turn T₆)
end
theorem excM_sy {x : Str} {t : Tok} {l : Addr} : excM x t l (Str.ofString "symbol") = some (.str x t) := by
  show (if Str.ofString "symbol" = Str.ofString "data" then _ else _) = _
  rw [if_neg (ofs_ne (by decide))]
  exact if_pos rfl
theorem excM_da {x : Str} {t : Tok} {l : Addr} : excM x t l (Str.ofString "data") = some (.ref l) := if_pos rfl

end
-- lines of this file's own for the walk
local macro_rules | `(tactic| is_list) => `(tactic| exact News.isList (by k_asm) (by k_mem))
local macro_rules | `(tactic| k_room) => `(tactic| ktr_room)
local macro_rules | `(tactic| k_all) => `(tactic| assumption)
local macro_rules | `(tactic| k_mem) => `(tactic| first | assumption | (refine List.mem_append_left _ ?_; k_mem) | (refine List.mem_append_right _ ?_; k_mem))
local macro_rules
  | `(tactic| walk_at $s:str) =>
    let look := fun (t : String) => (t.splitOn ";").findSome? fun r => if (r.splitOn "=").head? == some s.getString then (r.splitOn "=").getLast? else none
    match look "spliced=m_spl;exec Return some=m_rete;eval Attribute Name=m_att;eval Call=m_cal;eval Call Attribute=m_cam;eval BinOp=m_bin;eval Compare=m_cmp;isTrue Compare=m_itc;call ref=m_call;exec While BoolOp cons nil=m_while;exec While Compare cons nil=m_while;compareOp In int ref=m_in;call builtin:len=m_len;compareOp Eq ref ref=m_eqr;call builtin:list.pop=m_pop;call builtin:list.append=m_app;call type:list=m_lst;eval Dict nil nil=m_dict;setAttr ref=m_setx;exec Raise some none=m_raise;leaving ref=m_leave;noteFrame ref=m_catch;callWith ref=m_cw;getAttr ref=m_geta;exec For Tuple List cons nil=m_for;exec For Name Call cons nil=m_for;exec For Name Name cons nil=m_for;CompRest=m_rest;CompSrc=m_src;eval Lambda=m_lam0;newList=m_newl;storeName=m_stn;call builtin:str.join=m_join;pyIter str=m_iters;setItem ref int=m_seti;eval ListComp=m_comp;exec Assign cons ListComp=m_compA;pyIter ref=m_iter;compareOp Eq str str=m_eqs;compareOp NotEq str str=m_nes;call builtin:dict.get=m_dget;getMethod ref=m_meth;eval Name=m_name;subscriptTail Name BinOp str int=m_item;subscriptTail Name Constant str int=m_item;compareOp NotEq ref ref=m_ner;And=m_and;ite=m_ite" with
    | some m => `(tactic| (k_here; k_extra $(Lean.Syntax.mkStrLit m)))
    | none => match look "KswEnd=m_end;RaiseEnd=m_raised;LeaveT=m_leaveT;WEnd=m_wend;InvEndN=m_end" with
      | some m => `(tactic| k_extra $(Lean.Syntax.mkStrLit m))
      | none => Lean.Macro.throwUnsupported
local macro_rules | `(tactic| walk_at "WPost") => `(tactic| (dsimp only [WPost]))
theorem fill0 : (fun (_ : OpenLaw) (_ : Params → Frag) => True) PySem.Challenge.rw_oj0035_01 Mine.T.heap_1 := by
  k_fill
  trivial
theorem u10 : True := by
  k_with_none
  k_with "m_om" => (with_reducible first | decide | assumption | ((show @LT.lt Nat _ _ _); first | exact rm_a ‹_› rfl | exact rm_b ‹_› rfl | exact rm_c ‹_› | exact rm_d ‹_› | exact tn_a ‹_› | exact tn_b ‹_› | exact tn_c ‹_› | exact tn_d ‹_› | exact rm_e ‹_› rfl | exact tp_d ‹_› | exact tp_e ‹_› ‹_› | exact tp_h ‹_› | exact tp_v ‹_› | exact tr_a ‹_›) | ((show @LE.le Nat _ _ _); first | exact tn_h ‹_› | exact tp_c ‹_› | exact tp_k ‹_› ‹_› | exact tp_l ‹_› ‹_› ‹_› | exact tp_x ‹_› ‹_› | exact Nat.le_trans ‹_› ‹_›) | ((show @LT.lt Int _ _ _); first | exact tn_m ‹_› | exact tn_n ‹_› | exact tp_p ‹_› ‹_› ‹_› ‹_› | exact tp_q ‹_› ‹_› ‹_› | exact Int.lt_of_toNat_lt ‹_› | exact Int.lt_of_lt_of_le ‹_› ‹_› | exact Int.sub_left_lt_of_lt_add ‹_› | exact tr_b ‹_›) | ((show @LE.le Int _ _ _); first | exact tn_i ‹_› | exact tn_j ‹_› | exact tn_k ‹_› | exact tn_l ‹_› | exact tn_o ‹_› | exact tp_i ‹_› ‹_› | exact tp_a ‹_› ‹_› | exact tp_a1 ‹_› ‹_› | exact tp_b ‹_› | exact tp_r ‹_› ‹_› | exact tp_s ‹_› | exact Int.le_of_lt (Int.not_le.mp ‹_›) | exact Int.sub_nonneg_of_le ‹_› | exact Int.sub_nonneg_of_le (tn_i ‹_›) | exact Int.le_add_of_nonneg_right (Int.natCast_nonneg _)) | ((show @Eq Nat _ _); first | exact tn_s ‹_› | exact tn_t ‹_› | exact (tn_s ‹_›).symm | exact tp_g ‹_› | exact tn_s (Int.not_le.mp ‹_›) | exact tp_u ‹_› | exact tp_j) | ((show @Eq Int _ _); first | exact tn_e ‹_› | exact tn_f ‹_› | exact tn_g ‹_› | exact tp_m ‹_› | exact tp_n ‹_› | exact tp_o ‹_› ‹_› | exact tp_w ‹_› ‹_› | exact tp_y) | exact tp_f ‹_› ‹_› | exact tp_f ‹_› | exact tp_f (Int.not_lt.mp ‹_›) | exact tp_t ‹_› ‹_› | exact Nat.ne_of_gt ‹_› | exact Nat.ne_of_lt ‹_› | exact Nat.ne_of_gt (Nat.lt_trans ‹_› ‹_›))
  k_with "m_steps" => (repeat' (first | ((first | (k_unfold) | fail); (try dsimp only)) | (first | (k_extra "m_ret") | fail) | (first | (walk1) | fail) | (dsimp only; (first | (walk1) | fail)) | fail "no step"))
  k_with "m_ret" => ((with_reducible refine' hret _ _ _ ?_ ?e2 ?e3); (case e2 => k_asm); (case e3 => first | k_asm | exact cb_drop (by assumption) (by k_extra "m_sub")); (try k_extra "m_val"))
  k_with "m_ne" => ((with_reducible refine ofs_ne ?_); simp only [ne_eq, String.reduceEq, not_false_eq_true]; done)
  k_with "m_look" => (first | k_dflt (exact rfl) | repeat (first | with_reducible exact look_here | with_reducible exact look_ithere | with_reducible refine Eq.trans (look_next (by k_extra "m_ne")) ?_ | with_reducible refine Eq.trans (look_itnext (by k_extra "m_ne")) ?_ | with_reducible refine Eq.trans (look_off (by k_extra "m_off")) ?_ | with_reducible refine Eq.trans look_nil ?_ | assumption | fail "m_look"))
  k_with "m_kind" => (first | kernel_rfl! | k_dflt (exact rfl) | repeat (first | with_reducible exact kind_here | with_reducible refine Eq.trans (kind_next (by k_extra "m_ne")) ?_ | fail "m_kind"))
  k_with "m_name" => (first | (with_reducible refine' ldK ?k1 ?k4 ?k2 ?k5 ?_; (case k4 => k_extra "m_kind"); (case k1 => first | assumption | k_dflt assumption); (case k2 => k_extra "m_look"); (case k5 => simp only [ne_eq, String.reduceEq, not_false_eq_true])) | fail)
  k_with "m_ev" => (with_reducible refine' ev_ld ?k1 ?k4 ?k2 ?k5; (case k4 => k_extra "m_kind"); (case k1 => first | assumption | k_dflt assumption); (case k2 => k_extra "m_look"); (case k5 => simp only [ne_eq, String.reduceEq, not_false_eq_true]))
  k_with "m_att" => (with_reducible refine' attr_ev ?zv1 ?_; (case zv1 => k_extra "m_ev"))
  k_with "m_bin" => (with_reducible (first | (refine' bin_ev2 ?zv1 ?zv2 ?_; (case zv1 => k_extra "m_ev"); (case zv2 => k_extra "m_ev")) | (refine' bin_ei ?zv1 ?_; (case zv1 => k_extra "m_ev")) | (refine' bin_ev ?zv1 ?_; (case zv1 => k_extra "m_ev"))))
  k_with "m_ite" => (first | with_reducible refine ite_tt ?_ | with_reducible refine ite_ff ?_ | (with_reducible refine dec_pos ?c ?_; (case c => omega)) | (with_reducible refine dec_neg ?c ?_; (case c => omega)) | (with_reducible refine ine_pos ?c ?_; (case c => omega)) | (with_reducible refine ine_neg ?c ?_; (case c => omega)) | (with_reducible refine ieq_pos ?c ?_; (case c => omega)) | (with_reducible refine ieq_neg ?c ?_; (case c => omega)) | (with_reducible refine split_dec ?_ ?_ <;> intro _) | (with_reducible refine split_ine ?_ ?_ <;> intro _) | (with_reducible refine split_ieq ?_ ?_ <;> intro _))
  k_with "m_val" => exact ⟨_, rfl⟩
  trivial
set_option maxHeartbeats 4000000 in
theorem begin_ok {w : World} {news : Led} {v : Addr} {cs : List Int} {p : Int} (hv : ViewIn news v cs p) :
    Gives w 43 1 [.ref v] news (IntR p) := (by exact qz : Qz _ (by
  obtain ⟨dx, lc, e1, e2, k1, k2, tt, vs, nn9, m1, m2, m3, hI, hlen, hp0, hp1⟩ := id hv
  constructor
  intro pF loF meF mgF mbF dp un gd cnF csF aF cdF clF outer A₀ base h₀ LF mF sF QF EF B F X N T hk hd hu hret
  refine wpAny_call ?_
  k_dflt (refine' code_defK ([(Str.ofString "self", .ref v)]).reverse ?k1 ?k2 ?k3 ?k4 ?k5 ?kA ?kF ?kK ?k6 ?k7 ?k8 ?k9 ?kB ?_ ?c2 ?c3 ?c4 ?c5; (case kA => exact rfl); (case kF => exact rfl); (case kK => exact hk); (case k1 => exact B); (case k2 => exact F); (case k3 => exact X); (case k4 => exact N); (case k5 => exact T); (case k6 => k_is); (case k7 => k_is); (case k8 => ktr_room); (case k9 => first | exact BindsTo.of_eq rfl | exact binds_K (by k_in) rfl (by k_is) rfl rfl rfl); (case c5 => decide); (case kB => exact locs (by kernel_rfl!)); (case c2 => exact rfl); (case c3 => exact rfl); (case c4 => exact rfl); k_whole; intro g' L' h' FG' F' N' B' X' T'; (try dsimp only [List.reverse, List.reverseAux] at F'); (try dsimp only); (try k_fold); (try (show (let ak : Around := _; wpAny _ ak _ _ _ _)); intro ak))
  k_extra "m_steps"))
set_option maxHeartbeats 4000000 in
theorem end_ok {w : World} {news : Led} {v : Addr} {cs : List Int} {p : Int} (hv : ViewIn news v cs p) :
    Gives w 50 1 [.ref v] news (IntR (p + cs.length)) := (by exact qz : Qz _ (by
  obtain ⟨dx, lc, e1, e2, k1, k2, tt, vs, nn9, m1, m2, m3, hI, hlen, hp0, hp1⟩ := id hv
  constructor
  intro pF loF meF mgF mbF dp un gd cnF csF aF cdF clF outer A₀ base h₀ LF mF sF QF EF B F X N T hk hd hu hret
  refine wpAny_call ?_
  k_dflt (refine' code_defK ([(Str.ofString "self", .ref v)]).reverse ?k1 ?k2 ?k3 ?k4 ?k5 ?kA ?kF ?kK ?k6 ?k7 ?k8 ?k9 ?kB ?_ ?c2 ?c3 ?c4 ?c5; (case kA => exact rfl); (case kF => exact rfl); (case kK => exact hk); (case k1 => exact B); (case k2 => exact F); (case k3 => exact X); (case k4 => exact N); (case k5 => exact T); (case k6 => k_is); (case k7 => k_is); (case k8 => ktr_room); (case k9 => first | exact BindsTo.of_eq rfl | exact binds_K (by k_in) rfl (by k_is) rfl rfl rfl); (case c5 => decide); (case kB => exact locs (by kernel_rfl!)); (case c2 => exact rfl); (case c3 => exact rfl); (case c4 => exact rfl); k_whole; intro g' L' h' FG' F' N' B' X' T'; (try dsimp only [List.reverse, List.reverseAux] at F'); (try dsimp only); (try k_fold); (try (show (let ak : Around := _; wpAny _ ak _ _ _ _)); intro ak))
  k_extra "m_steps"))
set_option maxHeartbeats 4000000 in
theorem code_at_ok {w : World} {news : Led} {v : Addr} {cs : List Int} {p x : Int} {t : Tok} (hv : ViewIn news v cs p) :
    Gives w 57 1 [.ref v, .int x t] news (IntR (codeR cs (x - p))) := (by exact qz : Qz _ (by
  obtain ⟨dx, lc, e1, e2, k1, k2, tt, vs, nn9, m1, m2, m3, hI, hlen, hp0, hp1⟩ := id hv
  k_with "m_val" => (first | (refine ⟨_, congrArg (fun z => Value.int z _) ?_⟩; unfold codeR; first | (rw [if_pos (by omega)]; done) | (rw [if_neg (by omega)]; done)))
  constructor
  intro pF loF meF mgF mbF dp un gd cnF csF aF cdF clF outer A₀ base h₀ LF mF sF QF EF B F X N T hk hd hu hret
  refine wpAny_call ?_
  k_dflt (refine' code_defK ([(Str.ofString "self", .ref v), (Str.ofString "place", .int x t)]).reverse ?k1 ?k2 ?k3 ?k4 ?k5 ?kA ?kF ?kK ?k6 ?k7 ?k8 ?k9 ?kB ?_ ?c2 ?c3 ?c4 ?c5; (case kA => exact rfl); (case kF => exact rfl); (case kK => exact hk); (case k1 => exact B); (case k2 => exact F); (case k3 => exact X); (case k4 => exact N); (case k5 => exact T); (case k6 => k_is); (case k7 => k_is); (case k8 => ktr_room); (case k9 => first | exact BindsTo.of_eq rfl | exact binds_K (by k_in) rfl (by k_is) rfl rfl rfl); (case c5 => decide); (case kB => exact locs (by kernel_rfl!)); (case c2 => exact rfl); (case c3 => exact rfl); (case c4 => exact rfl); k_whole; intro g' L' h' FG' F' N' B' X' T'; (try dsimp only [List.reverse, List.reverseAux] at F'); (try dsimp only); (try k_fold); (try (show (let ak : Around := _; wpAny _ ak _ _ _ _)); intro ak))
  k_extra "m_steps"))
theorem u11 : True := by
  k_with_none
  k_with "m_om" => (with_reducible first | decide | assumption | ((show @LT.lt Nat _ _ _); first | exact rm_a ‹_› rfl | exact rm_b ‹_› rfl | exact rm_c ‹_› | exact rm_d ‹_› | exact tn_a ‹_› | exact tn_b ‹_› | exact tn_c ‹_› | exact tn_d ‹_› | exact rm_e ‹_› rfl | exact tp_d ‹_› | exact tp_e ‹_› ‹_› | exact tp_h ‹_› | exact tp_v ‹_› | exact tr_a ‹_›) | ((show @LE.le Nat _ _ _); first | exact tn_h ‹_› | exact tp_c ‹_› | exact tp_k ‹_› ‹_› | exact tp_l ‹_› ‹_› ‹_› | exact tp_x ‹_› ‹_› | exact Nat.le_trans ‹_› ‹_›) | ((show @LT.lt Int _ _ _); first | exact tn_m ‹_› | exact tn_n ‹_› | exact tp_p ‹_› ‹_› ‹_› ‹_› | exact tp_q ‹_› ‹_› ‹_› | exact Int.lt_of_toNat_lt ‹_› | exact Int.lt_of_lt_of_le ‹_› ‹_› | exact Int.sub_left_lt_of_lt_add ‹_› | exact tr_b ‹_›) | ((show @LE.le Int _ _ _); first | exact tn_i ‹_› | exact tn_j ‹_› | exact tn_k ‹_› | exact tn_l ‹_› | exact tn_o ‹_› | exact tp_i ‹_› ‹_› | exact tp_a ‹_› ‹_› | exact tp_a1 ‹_› ‹_› | exact tp_b ‹_› | exact tp_r ‹_› ‹_› | exact tp_s ‹_› | exact Int.le_of_lt (Int.not_le.mp ‹_›) | exact Int.sub_nonneg_of_le ‹_› | exact Int.sub_nonneg_of_le (tn_i ‹_›) | exact Int.le_add_of_nonneg_right (Int.natCast_nonneg _)) | ((show @Eq Nat _ _); first | exact tn_s ‹_› | exact tn_t ‹_› | exact (tn_s ‹_›).symm | exact tp_g ‹_› | exact tn_s (Int.not_le.mp ‹_›) | exact tp_u ‹_› | exact tp_j) | ((show @Eq Int _ _); first | exact tn_e ‹_› | exact tn_f ‹_› | exact tn_g ‹_› | exact tp_m ‹_› | exact tp_n ‹_› | exact tp_o ‹_› ‹_› | exact tp_w ‹_› ‹_› | exact tp_y) | exact tp_f ‹_› ‹_› | exact tp_f ‹_› | exact tp_f (Int.not_lt.mp ‹_›) | exact tp_t ‹_› ‹_› | exact Nat.ne_of_gt ‹_› | exact Nat.ne_of_lt ‹_› | exact Nat.ne_of_gt (Nat.lt_trans ‹_› ‹_›))
  k_with "m_sd1" => ((case k1 | k2 | k3 | k4 | k5 => assumption))
  k_with "m_sd2" => ((case kK => first | exact rfl | assumption); (case kd => first | (dsimp only [ktrTop, Around.deeper]; omega) | ktr_room); (case ku => first | (dsimp only [ktrTop, Around.deeper]; omega) | ktr_units))
  k_with "m_steps" => (repeat' (first | ((first | (k_unfold) | fail); (try dsimp only)) | (first | (k_extra "m_ret") | fail) | (first | (walk1) | fail) | (dsimp only; (first | (walk1) | fail)) | fail "no step"))
  k_with "m_ret" => ((with_reducible refine' hret _ _ _ ?_ ?e2 ?e3); (case e2 => k_asm); (case e3 => first | k_asm | exact cb_drop (by assumption) (by k_extra "m_sub")); (try k_extra "m_val"))
  k_with "m_call" => k_dflt ((first | (refine' Gives.useI ?G ?k1 ?k2 ?k3 ?k4 ?k5 ?kK ?kd ?ku ?_; (case G => k_extra "m_con"); k_extra "m_sd1"; k_extra "m_sd2"; intro t9 h9 tk9 F9 N9; (try k_sweep); (try k_extra "m_openI"); (try dsimp only); (try k_fold)) | fail))
  k_with "m_ne" => ((with_reducible refine ofs_ne ?_); simp only [ne_eq, String.reduceEq, not_false_eq_true]; done)
  k_with "m_look" => (first | k_dflt (exact rfl) | repeat (first | with_reducible exact look_here | with_reducible exact look_ithere | with_reducible refine Eq.trans (look_next (by k_extra "m_ne")) ?_ | with_reducible refine Eq.trans (look_itnext (by k_extra "m_ne")) ?_ | with_reducible refine Eq.trans (look_off (by k_extra "m_off")) ?_ | with_reducible refine Eq.trans look_nil ?_ | assumption | fail "m_look"))
  k_with "m_kind" => (first | kernel_rfl! | k_dflt (exact rfl) | repeat (first | with_reducible exact kind_here | with_reducible refine Eq.trans (kind_next (by k_extra "m_ne")) ?_ | fail "m_kind"))
  k_with "m_name" => (with_reducible refine' nameK ?k0 ?k1 ?k2 ?k5 ?k3 ?k6 ?_; (case k5 => k_extra "m_kind"); (case k0 => first | assumption | k_dflt assumption); (case k1 => assumption); (case k2 => assumption); (case k3 => k_dflt k_is); (case k6 => simp only [ne_eq, String.reduceEq, not_false_eq_true]))
  k_with "m_name" => (first | (with_reducible refine' ldK ?k1 ?k4 ?k2 ?k5 ?_; (case k4 => k_extra "m_kind"); (case k1 => first | assumption | k_dflt assumption); (case k2 => k_extra "m_look"); (case k5 => simp only [ne_eq, String.reduceEq, not_false_eq_true])) | fail)
  k_with "m_ev" => (with_reducible refine' ev_ld ?k1 ?k4 ?k2 ?k5; (case k4 => k_extra "m_kind"); (case k1 => first | assumption | k_dflt assumption); (case k2 => k_extra "m_look"); (case k5 => simp only [ne_eq, String.reduceEq, not_false_eq_true]))
  k_with "m_spl" => (with_reducible first | (refine' args_ev1 ?zv1 ?_; (case zv1 => k_extra "m_ev")) | (refine' args_ev2 ?zv1 ?zv2 ?_; (case zv1 => k_extra "m_ev"); (case zv2 => k_extra "m_ev")) | (refine' args_ev3 ?zv1 ?zv2 ?zv3 ?_; (case zv1 => k_extra "m_ev"); (case zv2 => k_extra "m_ev"); (case zv3 => k_extra "m_ev")) | (refine' args_ev4 ?zv1 ?zv2 ?zv3 ?zv4 ?_; (case zv1 => k_extra "m_ev"); (case zv2 => k_extra "m_ev"); (case zv3 => k_extra "m_ev"); (case zv4 => k_extra "m_ev")))
  k_with "m_cam" => (with_reducible refine' method_ev ?zv1 ?_; (case zv1 => k_extra "m_ev"))
  k_with "m_bin" => (with_reducible (first | (refine' bin_ev2 ?zv1 ?zv2 ?_; (case zv1 => k_extra "m_ev"); (case zv2 => k_extra "m_ev")) | (refine' bin_ei ?zv1 ?_; (case zv1 => k_extra "m_ev")) | (refine' bin_ev ?zv1 ?_; (case zv1 => k_extra "m_ev"))))
  k_with "m_itc" => (with_reducible (first | (refine' itc_ev2 ?zv1 ?zv2 ?_; (case zv1 => k_extra "m_ev"); (case zv2 => k_extra "m_ev")) | (refine' itc_ei ?zv1 ?_; (case zv1 => k_extra "m_ev")) | (refine' itc_ev ?zv1 ?_; (case zv1 => k_extra "m_ev"))))
  k_with "m_rete" => (with_reducible refine' ret_ev ?zv1 ?_; (case zv1 => k_extra "m_ev"))
  k_with "m_ite" => (first | with_reducible refine ite_tt ?_ | with_reducible refine ite_ff ?_ | (with_reducible refine dec_pos ?c ?_; (case c => omega)) | (with_reducible refine dec_neg ?c ?_; (case c => omega)) | (with_reducible refine ine_pos ?c ?_; (case c => omega)) | (with_reducible refine ine_neg ?c ?_; (case c => omega)) | (with_reducible refine ieq_pos ?c ?_; (case c => omega)) | (with_reducible refine ieq_neg ?c ?_; (case c => omega)) | (with_reducible refine split_dec ?_ ?_ <;> intro _) | (with_reducible refine split_ine ?_ ?_ <;> intro _) | (with_reducible refine split_ieq ?_ ?_ <;> intro _))
  k_with "m_same" => (intro z h2 h3; (try dsimp only at h2); (try dsimp only); (simp only [List.forall_mem_cons, List.not_mem_nil, false_implies, implies_true, and_true, ne_eq] at h2); first | (simp only [kstB, h2, if_false, List.contains_nil, Bool.false_eq_true]; done) | (simp only [kstB, h2, h3, if_false, List.contains_nil, Bool.false_eq_true]; done) | (simp [kstB, h2]; done) | (simp [kstB, h2, h3]; done))
  k_with "m_view" => (first | assumption | exact ViewIn.mono (by assumption) (by k_extra "m_sub"))
  k_with "m_con" => ((with_reducible show Gives _ 43 _ _ _ _); exact begin_ok (by k_extra "m_view"))
  k_with "m_con" => ((with_reducible show Gives _ 50 _ _ _ _); exact end_ok (by k_extra "m_view"))
  k_with "m_con" => ((with_reducible show Gives _ 57 _ _ _ _); exact code_at_ok (by k_extra "m_view"))
  trivial
set_option maxHeartbeats 4000000 in
theorem line_start_ok {w : World} {news : Led} {v : Addr} {cs : List Int} {p x : Int} {t : Tok} (hv : ViewIn news v cs p) (h0 : p ≤ x) (h1 : x ≤ p + cs.length) :
    Gives w 77 2 [.ref v, .int x t] news (IntR (p + lineS cs (x - p).toNat)) := (by exact qz : Qz _ (by
  obtain ⟨dx, lc, e1, e2, k1, k2, tt, vs, nn9, m1, m2, m3, hI, hlen, hp0, hp1⟩ := id hv
  k_with "m_while" => (first | (
    (rename Fr _ _ _ _ => lF); (rename News _ _ _ _ => lN)
    refine' ksw_while (fun _ : Int × Tok => news) (fun c => [(Str.ofString "at", .int c.1 c.2)]) (fun _ => True) [] (fun c => A3 (p ≤ c.1) (c.1 ≤ p + cs.length) (lineS cs (c.1 - p).toNat = lineS cs (x - p).toNat)) (fun c => (c.1 - p).toNat) (x, t) lF lN trivial ?kk ⟨h0, h1, rfl⟩ ?_
    (case kk => kst_all)
    clear lF lN
    rintro ⟨y, ty⟩ u h tk - ⟨y0, y1, y2⟩ lF lN
    (try dsimp only at lF)
    (try dsimp only at *)
    (try k_fold))              | fail)
  k_with "m_end" => k_dflt (first | (exact ksw_end (y - 1, _) (by assumption) (by assumption) (fun _ h => h) trivial (by kst_all) (by k_extra "m_same") ⟨by dsimp only; omega, by dsimp only; omega, y2 ▸ (lineS_step (by omega) y1 (by assumption)).symm⟩ (by dsimp only; omega)) | fail)
  k_with "m_val" => exact ⟨_, congrArg (fun z => Value.int z _) (y2 ▸ lineS_stop y0 y1 (by omega))⟩
  constructor
  intro pF loF meF mgF mbF dp un gd cnF csF aF cdF clF outer A₀ base h₀ LF mF sF QF EF B F X N T hk hd hu hret
  refine wpAny_call ?_
  k_dflt (refine' code_defK ([(Str.ofString "view", .ref v), (Str.ofString "place", .int x t)]).reverse ?k1 ?k2 ?k3 ?k4 ?k5 ?kA ?kF ?kK ?k6 ?k7 ?k8 ?k9 ?kB ?_ ?c2 ?c3 ?c4 ?c5; (case kA => exact rfl); (case kF => exact rfl); (case kK => exact hk); (case k1 => exact B); (case k2 => exact F); (case k3 => exact X); (case k4 => exact N); (case k5 => exact T); (case k6 => k_is); (case k7 => k_is); (case k8 => ktr_room); (case k9 => first | exact BindsTo.of_eq rfl | exact binds_K (by k_in) rfl (by k_is) rfl rfl rfl); (case c5 => decide); (case kB => exact locs (by kernel_rfl!)); (case c2 => exact rfl); (case c3 => exact rfl); (case c4 => exact rfl); k_whole; intro g' L' h' FG' F' N' B' X' T'; (try dsimp only [List.reverse, List.reverseAux] at F'); (try dsimp only); (try k_fold); (try (show (let ak : Around := _; wpAny _ ak _ _ _ _)); intro ak))
  k_extra "m_steps"))
set_option maxHeartbeats 4000000 in
theorem line_end_ok {w : World} {news : Led} {v : Addr} {cs : List Int} {p x : Int} {t : Tok} (hv : ViewIn news v cs p) (h0 : p ≤ x) (h1 : x ≤ p + cs.length) :
    Gives w 84 2 [.ref v, .int x t] news (IntR (p + lineE cs (x - p).toNat)) := (by exact qz : Qz _ (by
  obtain ⟨dx, lc, e1, e2, k1, k2, tt, vs, nn9, m1, m2, m3, hI, hlen, hp0, hp1⟩ := id hv
  k_with "m_while" => (first | (
    (rename Fr _ _ _ _ => lF); (rename News _ _ _ _ => lN)
    refine' ksw_while (fun _ : Int × Tok => news) (fun c => [(Str.ofString "at", .int c.1 c.2)]) (fun _ => True) [] (fun c => A3 (p ≤ c.1) (c.1 ≤ p + cs.length) (lineE cs (c.1 - p).toNat = lineE cs (x - p).toNat)) (fun c => (p + cs.length - c.1).toNat) (x, t) lF lN trivial ?kk ⟨h0, h1, rfl⟩ ?_
    (case kk => kst_all)
    clear lF lN
    rintro ⟨y, ty⟩ u h tk - ⟨y0, y1, y2⟩ lF lN
    (try dsimp only at lF)
    (try dsimp only at *)
    (try k_fold))              | fail)
  k_with "m_end" => k_dflt (first | (exact ksw_end (y + 1, _) (by assumption) (by assumption) (fun _ h => h) trivial (by kst_all) (by k_extra "m_same") ⟨by dsimp only; omega, by dsimp only; omega, y2 ▸ (lineE_step y0 (by omega) (by assumption)).symm⟩ (by dsimp only; omega)) | fail)
  k_with "m_val" => exact ⟨_, congrArg (fun z => Value.int z _) (y2 ▸ lineE_stop y0 y1 (by omega))⟩
  constructor
  intro pF loF meF mgF mbF dp un gd cnF csF aF cdF clF outer A₀ base h₀ LF mF sF QF EF B F X N T hk hd hu hret
  refine wpAny_call ?_
  k_dflt (refine' code_defK ([(Str.ofString "view", .ref v), (Str.ofString "place", .int x t)]).reverse ?k1 ?k2 ?k3 ?k4 ?k5 ?kA ?kF ?kK ?k6 ?k7 ?k8 ?k9 ?kB ?_ ?c2 ?c3 ?c4 ?c5; (case kA => exact rfl); (case kF => exact rfl); (case kK => exact hk); (case k1 => exact B); (case k2 => exact F); (case k3 => exact X); (case k4 => exact N); (case k5 => exact T); (case k6 => k_is); (case k7 => k_is); (case k8 => ktr_room); (case k9 => first | exact BindsTo.of_eq rfl | exact binds_K (by k_in) rfl (by k_is) rfl rfl rfl); (case c5 => decide); (case kB => exact locs (by kernel_rfl!)); (case c2 => exact rfl); (case c3 => exact rfl); (case c4 => exact rfl); k_whole; intro g' L' h' FG' F' N' B' X' T'; (try dsimp only [List.reverse, List.reverseAux] at F'); (try dsimp only); (try k_fold); (try (show (let ak : Around := _; wpAny _ ak _ _ _ _)); intro ak))
  k_extra "m_steps"))
theorem u12 : True := by
  k_with_none
  k_with "m_om" => (with_reducible first | decide | assumption | ((show @LT.lt Nat _ _ _); first | exact rm_a ‹_› rfl | exact rm_b ‹_› rfl | exact rm_c ‹_› | exact rm_d ‹_› | exact tn_a ‹_› | exact tn_b ‹_› | exact tn_c ‹_› | exact tn_d ‹_› | exact rm_e ‹_› rfl | exact tp_d ‹_› | exact tp_e ‹_› ‹_› | exact tp_h ‹_› | exact tp_v ‹_› | exact tr_a ‹_›) | ((show @LE.le Nat _ _ _); first | exact tn_h ‹_› | exact tp_c ‹_› | exact tp_k ‹_› ‹_› | exact tp_l ‹_› ‹_› ‹_› | exact tp_x ‹_› ‹_› | exact Nat.le_trans ‹_› ‹_›) | ((show @LT.lt Int _ _ _); first | exact tn_m ‹_› | exact tn_n ‹_› | exact tp_p ‹_› ‹_› ‹_› ‹_› | exact tp_q ‹_› ‹_› ‹_› | exact Int.lt_of_toNat_lt ‹_› | exact Int.lt_of_lt_of_le ‹_› ‹_› | exact Int.sub_left_lt_of_lt_add ‹_› | exact tr_b ‹_›) | ((show @LE.le Int _ _ _); first | exact tn_i ‹_› | exact tn_j ‹_› | exact tn_k ‹_› | exact tn_l ‹_› | exact tn_o ‹_› | exact tp_i ‹_› ‹_› | exact tp_a ‹_› ‹_› | exact tp_a1 ‹_› ‹_› | exact tp_b ‹_› | exact tp_r ‹_› ‹_› | exact tp_s ‹_› | exact Int.le_of_lt (Int.not_le.mp ‹_›) | exact Int.sub_nonneg_of_le ‹_› | exact Int.sub_nonneg_of_le (tn_i ‹_›) | exact Int.le_add_of_nonneg_right (Int.natCast_nonneg _)) | ((show @Eq Nat _ _); first | exact tn_s ‹_› | exact tn_t ‹_› | exact (tn_s ‹_›).symm | exact tp_g ‹_› | exact tn_s (Int.not_le.mp ‹_›) | exact tp_u ‹_› | exact tp_j) | ((show @Eq Int _ _); first | exact tn_e ‹_› | exact tn_f ‹_› | exact tn_g ‹_› | exact tp_m ‹_› | exact tp_n ‹_› | exact tp_o ‹_› ‹_› | exact tp_w ‹_› ‹_› | exact tp_y) | exact tp_f ‹_› ‹_› | exact tp_f ‹_› | exact tp_f (Int.not_lt.mp ‹_›) | exact tp_t ‹_› ‹_› | exact Nat.ne_of_gt ‹_› | exact Nat.ne_of_lt ‹_› | exact Nat.ne_of_gt (Nat.lt_trans ‹_› ‹_›))
  k_with "m_sd1" => ((case k1 | k2 | k3 | k4 | k5 => assumption))
  k_with "m_sd2" => ((case kK => first | exact rfl | assumption); (case kd => first | (dsimp only [ktrTop, Around.deeper]; omega) | ktr_room); (case ku => first | (dsimp only [ktrTop, Around.deeper]; omega) | ktr_units))
  k_with "m_steps" => (repeat' (first | ((first | (k_unfold) | fail); (try dsimp only)) | (first | (k_extra "m_ret") | fail) | (first | (walk1) | fail) | (dsimp only; (first | (walk1) | fail)) | fail "no step"))
  k_with "m_ret" => ((with_reducible refine' hret _ _ _ ?_ ?e2 ?e3); (case e2 => k_asm); (case e3 => first | k_asm | exact cb_drop (by assumption) (by k_extra "m_sub")); (try k_extra "m_val"))
  k_with "m_call" => k_dflt ((first | (refine' Gives.useI ?G ?k1 ?k2 ?k3 ?k4 ?k5 ?kK ?kd ?ku ?_; (case G => k_extra "m_con"); k_extra "m_sd1"; k_extra "m_sd2"; intro t9 h9 tk9 F9 N9; (try k_sweep); (try k_extra "m_openI"); (try dsimp only); (try k_fold)) | fail))
  k_with "m_ne" => ((with_reducible refine ofs_ne ?_); simp only [ne_eq, String.reduceEq, not_false_eq_true]; done)
  k_with "m_look" => (first | k_dflt (exact rfl) | repeat (first | with_reducible exact look_here | with_reducible exact look_ithere | with_reducible refine Eq.trans (look_next (by k_extra "m_ne")) ?_ | with_reducible refine Eq.trans (look_itnext (by k_extra "m_ne")) ?_ | with_reducible refine Eq.trans (look_off (by k_extra "m_off")) ?_ | with_reducible refine Eq.trans look_nil ?_ | assumption | fail "m_look"))
  k_with "m_kind" => (first | kernel_rfl! | k_dflt (exact rfl) | repeat (first | with_reducible exact kind_here | with_reducible refine Eq.trans (kind_next (by k_extra "m_ne")) ?_ | fail "m_kind"))
  k_with "m_name" => (with_reducible refine' nameK ?k0 ?k1 ?k2 ?k5 ?k3 ?k6 ?_; (case k5 => k_extra "m_kind"); (case k0 => first | assumption | k_dflt assumption); (case k1 => assumption); (case k2 => assumption); (case k3 => k_dflt k_is); (case k6 => simp only [ne_eq, String.reduceEq, not_false_eq_true]))
  k_with "m_name" => (first | (with_reducible refine' ldK ?k1 ?k4 ?k2 ?k5 ?_; (case k4 => k_extra "m_kind"); (case k1 => first | assumption | k_dflt assumption); (case k2 => k_extra "m_look"); (case k5 => simp only [ne_eq, String.reduceEq, not_false_eq_true])) | fail)
  k_with "m_ev" => (with_reducible refine' ev_name ?k0 ?k1 ?k2 ?k5 ?k3 ?k6; (case k5 => k_extra "m_kind"); (case k0 => first | assumption | k_dflt assumption); (case k1 => assumption); (case k2 => assumption); (case k3 => k_dflt k_is); (case k6 => simp only [ne_eq, String.reduceEq, not_false_eq_true]))
  k_with "m_ev" => (with_reducible refine' ev_ld ?k1 ?k4 ?k2 ?k5; (case k4 => k_extra "m_kind"); (case k1 => first | assumption | k_dflt assumption); (case k2 => k_extra "m_look"); (case k5 => simp only [ne_eq, String.reduceEq, not_false_eq_true]))
  k_with "m_spl" => (with_reducible first | (refine' args_ev1 ?zv1 ?_; (case zv1 => k_extra "m_ev")) | (refine' args_ev2 ?zv1 ?zv2 ?_; (case zv1 => k_extra "m_ev"); (case zv2 => k_extra "m_ev")) | (refine' args_ev3 ?zv1 ?zv2 ?zv3 ?_; (case zv1 => k_extra "m_ev"); (case zv2 => k_extra "m_ev"); (case zv3 => k_extra "m_ev")) | (refine' args_ev4 ?zv1 ?zv2 ?zv3 ?zv4 ?_; (case zv1 => k_extra "m_ev"); (case zv2 => k_extra "m_ev"); (case zv3 => k_extra "m_ev"); (case zv4 => k_extra "m_ev")))
  k_with "m_cal" => (with_reducible refine' call_ev ?zv1 ?_; (case zv1 => k_extra "m_ev"))
  k_with "m_cam" => (with_reducible refine' method_ev ?zv1 ?_; (case zv1 => k_extra "m_ev"))
  k_with "m_bin" => (with_reducible (first | (refine' bin_ev2 ?zv1 ?zv2 ?_; (case zv1 => k_extra "m_ev"); (case zv2 => k_extra "m_ev")) | (refine' bin_ei ?zv1 ?_; (case zv1 => k_extra "m_ev")) | (refine' bin_ev ?zv1 ?_; (case zv1 => k_extra "m_ev"))))
  k_with "m_itc" => (with_reducible (first | (refine' itc_ev2 ?zv1 ?zv2 ?_; (case zv1 => k_extra "m_ev"); (case zv2 => k_extra "m_ev")) | (refine' itc_ei ?zv1 ?_; (case zv1 => k_extra "m_ev")) | (refine' itc_ev ?zv1 ?_; (case zv1 => k_extra "m_ev"))))
  k_with "m_ite" => (first | with_reducible refine ite_tt ?_ | with_reducible refine ite_ff ?_ | (with_reducible refine dec_pos ?c ?_; (case c => omega)) | (with_reducible refine dec_neg ?c ?_; (case c => omega)) | (with_reducible refine ine_pos ?c ?_; (case c => omega)) | (with_reducible refine ine_neg ?c ?_; (case c => omega)) | (with_reducible refine ieq_pos ?c ?_; (case c => omega)) | (with_reducible refine ieq_neg ?c ?_; (case c => omega)) | (with_reducible refine split_dec ?_ ?_ <;> intro _) | (with_reducible refine split_ine ?_ ?_ <;> intro _) | (with_reducible refine split_ieq ?_ ?_ <;> intro _))
  k_with "m_view" => (first | assumption | exact ViewIn.mono (by assumption) (by k_extra "m_sub"))
  k_with "m_con" => ((with_reducible show Gives _ 50 _ _ _ _); exact end_ok (by k_extra "m_view"))
  k_with "m_con" => ((with_reducible show Gives _ 84 _ _ _ _); exact line_end_ok (by k_extra "m_view") (by omega) (by omega))
  trivial
set_option maxHeartbeats 4000000 in
theorem next_start_ok {w : World} {news : Led} {v : Addr} {cs : List Int} {p x : Int} {t : Tok} (hv : ViewIn news v cs p) (h0 : p ≤ x) (h1 : x ≤ p + cs.length) :
    Gives w 91 3 [.ref v, .int x t] news (IntR (if lineE cs (x - p).toNat < cs.length then p + lineE cs (x - p).toNat + 1 else -1)) := (by exact qz : Qz _ (by
  obtain ⟨dx, lc, e1, e2, k1, k2, tt, vs, nn9, m1, m2, m3, hI, hlen, hp0, hp1⟩ := id hv
  k_with "m_val" => (first | exact ⟨_, congrArg (fun z => Value.int z _) (if_pos (by omega)).symm⟩ | exact ⟨_, congrArg (fun z => Value.int z _) (if_neg (by omega)).symm⟩)
  constructor
  intro pF loF meF mgF mbF dp un gd cnF csF aF cdF clF outer A₀ base h₀ LF mF sF QF EF B F X N T hk hd hu hret
  refine wpAny_call ?_
  k_dflt (refine' code_defK ([(Str.ofString "view", .ref v), (Str.ofString "place", .int x t)]).reverse ?k1 ?k2 ?k3 ?k4 ?k5 ?kA ?kF ?kK ?k6 ?k7 ?k8 ?k9 ?kB ?_ ?c2 ?c3 ?c4 ?c5; (case kA => exact rfl); (case kF => exact rfl); (case kK => exact hk); (case k1 => exact B); (case k2 => exact F); (case k3 => exact X); (case k4 => exact N); (case k5 => exact T); (case k6 => k_is); (case k7 => k_is); (case k8 => ktr_room); (case k9 => first | exact BindsTo.of_eq rfl | exact binds_K (by k_in) rfl (by k_is) rfl rfl rfl); (case c5 => decide); (case kB => exact locs (by kernel_rfl!)); (case c2 => exact rfl); (case c3 => exact rfl); (case c4 => exact rfl); k_whole; intro g' L' h' FG' F' N' B' X' T'; (try dsimp only [List.reverse, List.reverseAux] at F'); (try dsimp only); (try k_fold); (try (show (let ak : Around := _; wpAny _ ak _ _ _ _)); intro ak))
  k_extra "m_steps"))
set_option maxHeartbeats 4000000 in
theorem width_at_ok {w : World} {news : Led} {c k x : Int} {t t1 t2 : Tok} (hx : 0 < x) (hx1 : x ≤ 100) :
    Gives w 105 1 [.int c t, .int k t1, .int x t2] news (IntR (widthAt c k x)) := (by exact qz : Qz _ (by
  k_with "m_val" => (refine ⟨_, congrArg (fun z => Value.int z _) ?_⟩; unfold widthAt; first | (rw [if_pos (by omega)]; done) | (rw [if_neg (by omega), if_pos (by omega)]; done) | (rw [if_neg (by omega), if_neg (by omega), if_pos (by omega)]; done) | (rw [if_neg (by omega), if_neg (by omega), if_neg (by omega)]; done))
  constructor
  intro pF loF meF mgF mbF dp un gd cnF csF aF cdF clF outer A₀ base h₀ LF mF sF QF EF B F X N T hk hd hu hret
  refine wpAny_call ?_
  k_dflt (refine' code_defK ([(Str.ofString "code", .int c t), (Str.ofString "column", .int k t1), (Str.ofString "width", .int x t2)]).reverse ?k1 ?k2 ?k3 ?k4 ?k5 ?kA ?kF ?kK ?k6 ?k7 ?k8 ?k9 ?kB ?_ ?c2 ?c3 ?c4 ?c5; (case kA => exact rfl); (case kF => exact rfl); (case kK => exact hk); (case k1 => exact B); (case k2 => exact F); (case k3 => exact X); (case k4 => exact N); (case k5 => exact T); (case k6 => k_is); (case k7 => k_is); (case k8 => ktr_room); (case k9 => first | exact BindsTo.of_eq rfl | exact binds_K (by k_in) rfl (by k_is) rfl rfl rfl); (case c5 => decide); (case kB => exact locs (by kernel_rfl!)); (case c2 => exact rfl); (case c3 => exact rfl); (case c4 => exact rfl); k_whole; intro g' L' h' FG' F' N' B' X' T'; (try dsimp only [List.reverse, List.reverseAux] at F'); (try dsimp only); (try k_fold); (try (show (let ak : Around := _; wpAny _ ak _ _ _ _)); intro ak))
  k_extra "m_steps"))
theorem u13 : True := by
  k_with_none
  k_with "m_om" => (with_reducible first | decide | assumption | ((show @LT.lt Nat _ _ _); first | exact rm_a ‹_› rfl | exact rm_b ‹_› rfl | exact rm_c ‹_› | exact rm_d ‹_› | exact tn_a ‹_› | exact tn_b ‹_› | exact tn_c ‹_› | exact tn_d ‹_› | exact rm_e ‹_› rfl | exact tp_d ‹_› | exact tp_e ‹_› ‹_› | exact tp_h ‹_› | exact tp_v ‹_› | exact tr_a ‹_›) | ((show @LE.le Nat _ _ _); first | exact tn_h ‹_› | exact tp_c ‹_› | exact tp_k ‹_› ‹_› | exact tp_l ‹_› ‹_› ‹_› | exact tp_x ‹_› ‹_› | exact Nat.le_trans ‹_› ‹_›) | ((show @LT.lt Int _ _ _); first | exact tn_m ‹_› | exact tn_n ‹_› | exact tp_p ‹_› ‹_› ‹_› ‹_› | exact tp_q ‹_› ‹_› ‹_› | exact Int.lt_of_toNat_lt ‹_› | exact Int.lt_of_lt_of_le ‹_› ‹_› | exact Int.sub_left_lt_of_lt_add ‹_› | exact tr_b ‹_›) | ((show @LE.le Int _ _ _); first | exact tn_i ‹_› | exact tn_j ‹_› | exact tn_k ‹_› | exact tn_l ‹_› | exact tn_o ‹_› | exact tp_i ‹_› ‹_› | exact tp_a ‹_› ‹_› | exact tp_a1 ‹_› ‹_› | exact tp_b ‹_› | exact tp_r ‹_› ‹_› | exact tp_s ‹_› | exact Int.le_of_lt (Int.not_le.mp ‹_›) | exact Int.sub_nonneg_of_le ‹_› | exact Int.sub_nonneg_of_le (tn_i ‹_›) | exact Int.le_add_of_nonneg_right (Int.natCast_nonneg _)) | ((show @Eq Nat _ _); first | exact tn_s ‹_› | exact tn_t ‹_› | exact (tn_s ‹_›).symm | exact tp_g ‹_› | exact tn_s (Int.not_le.mp ‹_›) | exact tp_u ‹_› | exact tp_j) | ((show @Eq Int _ _); first | exact tn_e ‹_› | exact tn_f ‹_› | exact tn_g ‹_› | exact tp_m ‹_› | exact tp_n ‹_› | exact tp_o ‹_› ‹_› | exact tp_w ‹_› ‹_› | exact tp_y) | exact tp_f ‹_› ‹_› | exact tp_f ‹_› | exact tp_f (Int.not_lt.mp ‹_›) | exact tp_t ‹_› ‹_› | exact Nat.ne_of_gt ‹_› | exact Nat.ne_of_lt ‹_› | exact Nat.ne_of_gt (Nat.lt_trans ‹_› ‹_›))
  k_with "m_sd1" => ((case k1 | k2 | k3 | k4 | k5 => assumption))
  k_with "m_sd2" => ((case kK => first | exact rfl | assumption); (case kd => first | (dsimp only [ktrTop, Around.deeper]; omega) | ktr_room); (case ku => first | (dsimp only [ktrTop, Around.deeper]; omega) | ktr_units))
  k_with "m_steps" => (repeat' (first | ((first | (k_unfold) | fail); (try dsimp only)) | (first | (k_extra "m_ret") | fail) | (first | (walk1) | fail) | (dsimp only; (first | (walk1) | fail)) | fail "no step"))
  k_with "m_ret" => ((with_reducible refine' hret _ _ _ ?_ ?e2 ?e3); (case e2 => k_asm); (case e3 => first | k_asm | exact cb_drop (by assumption) (by k_extra "m_sub")); (try k_extra "m_val"))
  k_with "m_call" => k_dflt ((first | (refine' Gives.useM ?G ?k1 ?k2 ?k3 ?k4 ?k5 ?kK ?kd ?ku ?_; k_extra "m_sd1"; (case G => k_extra "m_con"); k_extra "m_sd2"; intro r9 h9 tk9 hR9 F9 N9; (try k_sweep); (k_extra "m_open"); ((try dsimp only); (try k_fold))) | fail))
  k_with "m_call" => k_dflt ((first | (refine' Gives.useI ?G ?k1 ?k2 ?k3 ?k4 ?k5 ?kK ?kd ?ku ?_; (case G => k_extra "m_con"); k_extra "m_sd1"; k_extra "m_sd2"; intro t9 h9 tk9 F9 N9; (try k_sweep); (try k_extra "m_openI"); (try dsimp only); (try k_fold)) | fail))
  k_with "m_open" => (rcases hR9 with ⟨t9, rfl⟩)
  k_with "m_ne" => ((with_reducible refine ofs_ne ?_); simp only [ne_eq, String.reduceEq, not_false_eq_true]; done)
  k_with "m_look" => (first | k_dflt (exact rfl) | repeat (first | with_reducible exact look_here | with_reducible exact look_ithere | with_reducible refine Eq.trans (look_next (by k_extra "m_ne")) ?_ | with_reducible refine Eq.trans (look_itnext (by k_extra "m_ne")) ?_ | with_reducible refine Eq.trans (look_off (by k_extra "m_off")) ?_ | with_reducible refine Eq.trans look_nil ?_ | assumption | fail "m_look"))
  k_with "m_kind" => (first | kernel_rfl! | k_dflt (exact rfl) | repeat (first | with_reducible exact kind_here | with_reducible refine Eq.trans (kind_next (by k_extra "m_ne")) ?_ | fail "m_kind"))
  k_with "m_ev" => (with_reducible refine' ev_name ?k0 ?k1 ?k2 ?k5 ?k3 ?k6; (case k5 => k_extra "m_kind"); (case k0 => first | assumption | k_dflt assumption); (case k1 => assumption); (case k2 => assumption); (case k3 => k_dflt k_is); (case k6 => simp only [ne_eq, String.reduceEq, not_false_eq_true]))
  k_with "m_ev" => (with_reducible refine' ev_ld ?k1 ?k4 ?k2 ?k5; (case k4 => k_extra "m_kind"); (case k1 => first | assumption | k_dflt assumption); (case k2 => k_extra "m_look"); (case k5 => simp only [ne_eq, String.reduceEq, not_false_eq_true]))
  k_with "m_spl" => (with_reducible first | (refine' args_ev1 ?zv1 ?_; (case zv1 => k_extra "m_ev")) | (refine' args_ev2 ?zv1 ?zv2 ?_; (case zv1 => k_extra "m_ev"); (case zv2 => k_extra "m_ev")) | (refine' args_ev3 ?zv1 ?zv2 ?zv3 ?_; (case zv1 => k_extra "m_ev"); (case zv2 => k_extra "m_ev"); (case zv3 => k_extra "m_ev")) | (refine' args_ev4 ?zv1 ?zv2 ?zv3 ?zv4 ?_; (case zv1 => k_extra "m_ev"); (case zv2 => k_extra "m_ev"); (case zv3 => k_extra "m_ev"); (case zv4 => k_extra "m_ev")))
  k_with "m_cal" => (with_reducible refine' call_ev ?zv1 ?_; (case zv1 => k_extra "m_ev"))
  k_with "m_cam" => (with_reducible refine' method_ev ?zv1 ?_; (case zv1 => k_extra "m_ev"))
  k_with "m_bin" => (with_reducible (first | (refine' bin_ev2 ?zv1 ?zv2 ?_; (case zv1 => k_extra "m_ev"); (case zv2 => k_extra "m_ev")) | (refine' bin_ei ?zv1 ?_; (case zv1 => k_extra "m_ev")) | (refine' bin_ev ?zv1 ?_; (case zv1 => k_extra "m_ev"))))
  k_with "m_rete" => (with_reducible refine' ret_ev ?zv1 ?_; (case zv1 => k_extra "m_ev"))
  k_with "m_sameF" => (intro z h1 h2 h3; (try dsimp only at h2); (try dsimp only); (simp only [List.forall_mem_cons, List.not_mem_nil, false_implies, implies_true, and_true, ne_eq] at h1 h2); first | (simp only [kstB, h1, h2, if_false, List.contains_nil, Bool.false_eq_true]; done) | (simp only [kstB, h1, h2, h3, if_false, List.contains_nil, Bool.false_eq_true]; done) | (simp [kstB, h1, h2]; done) | (simp [kstB, h1, h2, h3]; done))
  k_with "m_sub" => (intro q9 h9; repeat' (first | exact h9 | refine List.mem_append_left _ ?_ | refine List.mem_cons_of_mem _ ?_))
  k_with "m_view" => (first | assumption | exact ViewIn.mono (by assumption) (by k_extra "m_sub"))
  k_with "m_con" => ((with_reducible show Gives _ 57 _ _ _ _); exact code_at_ok (by k_extra "m_view"))
  k_with "m_con" => ((with_reducible show Gives _ 77 _ _ _ _); exact line_start_ok (by k_extra "m_view") (by omega) (by omega))
  k_with "m_con" => ((with_reducible show Gives _ 105 _ _ _ _); exact width_at_ok (by omega) (by omega))
  trivial
theorem range_len {a b : Int} (h : a ≤ b) : Builtin.Range.rangeSize a b 1 = (((b - a).toNat : Nat) : Int) := by
  rw [rangeSize_one]
  split <;> omega
theorem col_done {cs : List Int} {p x y : Int} (h0 : p ≤ x) (ha : lineS cs (x - p).toNat ≤ (x - p).toNat) (y0 : y = colK cs (lineS cs (x - p).toNat) (rangeKs (p + lineS cs (x - p).toNat) (x - (p + lineS cs (x - p).toNat)).toNat).length) : y = colF cs (x - p).toNat := by
  rw [y0, rangeKs_length]
  unfold colF
  congr 1
  omega
theorem widthAt_le {c k : Int} (h0 : 0 ≤ k) : 0 ≤ widthAt c k 8 ∧ widthAt c k 8 ≤ 10 := by
  unfold widthAt
  have := Int.fmod_nonneg_of_pos k (show (0 : Int) < 8 by decide)
  have := Int.fmod_lt_of_pos k (show (0 : Int) < 8 by decide)
  (repeat' split) <;> omega
theorem col_step {cs : List Int} {p x y k : Int} {pre : List Int} (h0 : p ≤ x) (h1 : x ≤ p + cs.length) (y0 : y = colK cs (lineS cs (x - p).toNat) pre.length) (y2 : 0 ≤ y) (y3 : y ≤ 10 * (pre.length : Int))
    (hlt : pre.length < (x - (p + lineS cs (x - p).toNat)).toNat) (hlen : cs.length ≤ 16) :
    y + widthAt (codeR cs (p + lineS cs (x - p).toNat + pre.length - p)) y 8 = colK cs (lineS cs (x - p).toNat) (pre ++ [k]).length ∧ ((pre ++ [k]).length = 0 ∨ (pre ++ [k]).length ≤ 16) ∧
      0 ≤ y + widthAt (codeR cs (p + lineS cs (x - p).toNat + pre.length - p)) y 8 ∧ y + widthAt (codeR cs (p + lineS cs (x - p).toNat + pre.length - p)) y 8 ≤ 10 * ((pre ++ [k]).length : Int) := by
  have hw := @widthAt_le (codeR cs (p + lineS cs (x - p).toNat + pre.length - p)) y y2
  have hl : (pre ++ [k]).length = pre.length + 1 := by simp
  refine ⟨?_, ?_, ?_, ?_⟩
  · rw [hl, colK_succ, ← y0]
    congr 3
    exact tp_y
  · exact .inr (hl ▸ Nat.le_trans (Nat.lt_of_lt_of_le hlt (by rw [tp_j]; exact Nat.sub_le _ _)) (Nat.le_trans (tn_h h1) hlen))
  · exact Int.add_nonneg y2 hw.1
  · rw [hl]
    exact tp_z y3 hw.2
set_option maxHeartbeats 4000000 in
theorem column_at_ok {w : World} {news : Led} {v : Addr} {cs : List Int} {p x : Int} {t t2 : Tok} (hv : ViewIn news v cs p) (h0 : p ≤ x) (h1 : x ≤ p + cs.length) :
    Gives w 112 3 [.ref v, .int x t, .int 8 t2] news (IntR (colF cs (x - p).toNat)) := (by exact qz : Qz _ (by
  obtain ⟨dx, lc, e1, e2, k1, k2, tt, vs, nn9, m1, m2, m3, hI, hlen, hp0, hp1⟩ := id hv
  have hS := lineS_le cs (x - p).toNat
  k_with "m_iter" => (first | (
    (rename Fr _ _ _ _ => lF); (rename News _ _ _ _ => lN); (rename IsRange _ _ _ _ _ _ _ _ => rgX)
    with_unfolding_all refine' kst_range (fun _ : Int × Tok => news) (fun c => [(Str.ofString "column", .int c.1 c.2)]) (fun _ => True) [] (fun pre c => c.1 = colK cs (lineS cs (x - p).toNat) pre.length ∧ (pre.length = 0 ∨ pre.length ≤ 16) ∧ 0 ≤ c.1 ∧ c.1 ≤ 10 * pre.length) (0, _) (by rfl) rgX (small_one (by omega) (by omega) (by omega) (by omega)) (range_len (by omega)) lF lN trivial ?kk ⟨rfl, Or.inl rfl, Int.le_refl 0, Int.le_refl 0⟩ ?_ ?_
    (case kk => kst_all)
    (all_goals (clear lF lN))
    (intro c pre k tk u h tk' own hk hlt hoff hf hP lF lN; obtain ⟨y, ty⟩ := c; obtain ⟨y0, y1, y2, y3⟩ := hP; (try dsimp only at *); subst hk; (try k_fold))
    rotate_left
    (intro c u h tk hf hP lF lN; obtain ⟨y, ty⟩ := c; obtain ⟨y0, y1, y2, y3⟩ := hP; (try dsimp only at *); (try k_fold))
    rotate_right)             | fail)
  k_with "m_end" => k_dflt (first | ((rename News _ _ _ _ => lN); exact kst_end (y + widthAt (codeR cs (p + lineS cs (x - p).toNat + pre.length - p)) y 8, _) (by assumption) lN (fun q h => List.mem_append_left _ h) (fun q h => List.mem_append_right _ h) rfl trivial (by kst_all) (by k_extra "m_sameF") (col_step h0 h1 y0 y2 y3 hlt hlen)) | fail)
  k_with "m_val" => exact ⟨_, congrArg (fun z => Value.int z _) (col_done h0 hS y0)⟩
  constructor
  intro pF loF meF mgF mbF dp un gd cnF csF aF cdF clF outer A₀ base h₀ LF mF sF QF EF B F X N T hk hd hu hret
  refine wpAny_call ?_
  k_dflt (refine' code_defK ([(Str.ofString "view", .ref v), (Str.ofString "place", .int x t), (Str.ofString "width", .int 8 t2)]).reverse ?k1 ?k2 ?k3 ?k4 ?k5 ?kA ?kF ?kK ?k6 ?k7 ?k8 ?k9 ?kB ?_ ?c2 ?c3 ?c4 ?c5; (case kA => exact rfl); (case kF => exact rfl); (case kK => exact hk); (case k1 => exact B); (case k2 => exact F); (case k3 => exact X); (case k4 => exact N); (case k5 => exact T); (case k6 => k_is); (case k7 => k_is); (case k8 => ktr_room); (case k9 => first | exact BindsTo.of_eq rfl | exact binds_K (by k_in) rfl (by k_is) rfl rfl rfl); (case c5 => decide); (case kB => exact locs (by kernel_rfl!)); (case c2 => exact rfl); (case c3 => exact rfl); (case c4 => exact rfl); k_whole; intro g' L' h' FG' F' N' B' X' T'; (try dsimp only [List.reverse, List.reverseAux] at F'); (try dsimp only); (try k_fold); (try (show (let ak : Around := _; wpAny _ ak _ _ _ _)); intro ak))
  k_extra "m_steps"))
theorem u20 : True := by
  k_with_none
  k_with "m_om" => (with_reducible first | decide | assumption | ((show @LT.lt Nat _ _ _); first | exact rm_a ‹_› rfl | exact rm_b ‹_› rfl | exact rm_c ‹_› | exact rm_d ‹_› | exact tn_a ‹_› | exact tn_b ‹_› | exact tn_c ‹_› | exact tn_d ‹_› | exact rm_e ‹_› rfl | exact tp_d ‹_› | exact tp_e ‹_› ‹_› | exact tp_h ‹_› | exact tp_v ‹_› | exact tr_a ‹_›) | ((show @LE.le Nat _ _ _); first | exact tn_h ‹_› | exact tp_c ‹_› | exact tp_k ‹_› ‹_› | exact tp_l ‹_› ‹_› ‹_› | exact tp_x ‹_› ‹_› | exact Nat.le_trans ‹_› ‹_›) | ((show @LT.lt Int _ _ _); first | exact tn_m ‹_› | exact tn_n ‹_› | exact tp_p ‹_› ‹_› ‹_› ‹_› | exact tp_q ‹_› ‹_› ‹_› | exact Int.lt_of_toNat_lt ‹_› | exact Int.lt_of_lt_of_le ‹_› ‹_› | exact Int.sub_left_lt_of_lt_add ‹_› | exact tr_b ‹_›) | ((show @LE.le Int _ _ _); first | exact tn_i ‹_› | exact tn_j ‹_› | exact tn_k ‹_› | exact tn_l ‹_› | exact tn_o ‹_› | exact tp_i ‹_› ‹_› | exact tp_a ‹_› ‹_› | exact tp_a1 ‹_› ‹_› | exact tp_b ‹_› | exact tp_r ‹_› ‹_› | exact tp_s ‹_› | exact Int.le_of_lt (Int.not_le.mp ‹_›) | exact Int.sub_nonneg_of_le ‹_› | exact Int.sub_nonneg_of_le (tn_i ‹_›) | exact Int.le_add_of_nonneg_right (Int.natCast_nonneg _)) | ((show @Eq Nat _ _); first | exact tn_s ‹_› | exact tn_t ‹_› | exact (tn_s ‹_›).symm | exact tp_g ‹_› | exact tn_s (Int.not_le.mp ‹_›) | exact tp_u ‹_› | exact tp_j) | ((show @Eq Int _ _); first | exact tn_e ‹_› | exact tn_f ‹_› | exact tn_g ‹_› | exact tp_m ‹_› | exact tp_n ‹_› | exact tp_o ‹_› ‹_› | exact tp_w ‹_› ‹_› | exact tp_y) | exact tp_f ‹_› ‹_› | exact tp_f ‹_› | exact tp_f (Int.not_lt.mp ‹_›) | exact tp_t ‹_› ‹_› | exact Nat.ne_of_gt ‹_› | exact Nat.ne_of_lt ‹_› | exact Nat.ne_of_gt (Nat.lt_trans ‹_› ‹_›))
  k_with "m_steps" => (repeat' (first | ((first | (k_unfold) | fail); (try dsimp only)) | (first | (k_extra "m_ret") | fail) | (first | (walk1) | fail) | (dsimp only; (first | (walk1) | fail)) | fail "no step"))
  k_with "m_ret" => ((with_reducible refine' hret _ _ _ ?_ ?e2 ?e3); (case e2 => k_asm); (case e3 => first | k_asm | exact cb_drop (by assumption) (by k_extra "m_sub")); (try k_extra "m_val"))
  k_with "m_eqs" => ((with_reducible show wpAny _ _ (compareOp CmpOp.Eq (Value.str (Kd.str _) _) (Value.str _ _)) _ _ _); with_reducible first | refine eq_kd (kd_w _) ?_ | refine eq_kd (kd_u _) ?_ | refine eq_kd (kd_o _) ?_ | refine eq_kd (kd_c _) ?_ | refine eq_kd (kd_n1 _) ?_ | refine eq_kd (kd_n2 _) ?_ | refine eq_kd (kd_n3 _) ?_ | refine eq_kd (kd_n4 _) ?_ | refine eq_kd (kd_n5 _) ?_ | refine eq_kd (kd_n6 _) ?_ | refine eq_kd (kd_n7 _) ?_ | refine eq_kd (kd_n8 _) ?_)
  k_with "m_ne" => ((with_reducible refine ofs_ne ?_); simp only [ne_eq, String.reduceEq, not_false_eq_true]; done)
  k_with "m_look" => (first | k_dflt (exact rfl) | repeat (first | with_reducible exact look_here | with_reducible exact look_ithere | with_reducible refine Eq.trans (look_next (by k_extra "m_ne")) ?_ | with_reducible refine Eq.trans (look_itnext (by k_extra "m_ne")) ?_ | with_reducible refine Eq.trans (look_off (by k_extra "m_off")) ?_ | with_reducible refine Eq.trans look_nil ?_ | assumption | fail "m_look"))
  k_with "m_kind" => (first | kernel_rfl! | k_dflt (exact rfl) | repeat (first | with_reducible exact kind_here | with_reducible refine Eq.trans (kind_next (by k_extra "m_ne")) ?_ | fail "m_kind"))
  k_with "m_name" => (with_reducible refine' nameK ?k0 ?k1 ?k2 ?k5 ?k3 ?k6 ?_; (case k5 => k_extra "m_kind"); (case k0 => first | assumption | k_dflt assumption); (case k1 => assumption); (case k2 => assumption); (case k3 => k_dflt k_is); (case k6 => simp only [ne_eq, String.reduceEq, not_false_eq_true]))
  k_with "m_ev" => (with_reducible refine' ev_ld ?k1 ?k4 ?k2 ?k5; (case k4 => k_extra "m_kind"); (case k1 => first | assumption | k_dflt assumption); (case k2 => k_extra "m_look"); (case k5 => simp only [ne_eq, String.reduceEq, not_false_eq_true]))
  k_with "m_att" => (with_reducible refine' attr_ev ?zv1 ?_; (case zv1 => k_extra "m_ev"))
  k_with "m_cmp" => (with_reducible refine' cmp_ev ?zv1 ?_; (case zv1 => k_extra "m_ev"))
  k_with "m_ite" => (first | with_reducible refine ite_tt ?_ | with_reducible refine ite_ff ?_ | (with_reducible refine dec_pos ?c ?_; (case c => omega)) | (with_reducible refine dec_neg ?c ?_; (case c => omega)) | (with_reducible refine ine_pos ?c ?_; (case c => omega)) | (with_reducible refine ine_neg ?c ?_; (case c => omega)) | (with_reducible refine ieq_pos ?c ?_; (case c => omega)) | (with_reducible refine ieq_neg ?c ?_; (case c => omega)) | (with_reducible refine split_dec ?_ ?_ <;> intro _) | (with_reducible refine split_ine ?_ ?_ <;> intro _) | (with_reducible refine split_ieq ?_ ?_ <;> intro _))
  trivial
set_option maxHeartbeats 4000000 in
theorem is_escape_ok {w : World} {news : Led} {a : Addr} {k : Kd} (hs : SynIn news a k) :
    Gives w 218 1 [.ref a] news (fun r => r = .bool false) := (by exact qz : Qz _ (by
  obtain ⟨dx, e1, e2, e3, k1, k2, k3, t1, t3, mv, m1, m2⟩ := hs
  k_with "m_val" => rfl
  constructor
  intro pF loF meF mgF mbF dp un gd cnF csF aF cdF clF outer A₀ base h₀ LF mF sF QF EF B F X N T hk hd hu hret
  refine wpAny_call ?_
  k_dflt (refine' code_defK ([(Str.ofString "self", .ref a)]).reverse ?k1 ?k2 ?k3 ?k4 ?k5 ?kA ?kF ?kK ?k6 ?k7 ?k8 ?k9 ?kB ?_ ?c2 ?c3 ?c4 ?c5; (case kA => exact rfl); (case kF => exact rfl); (case kK => exact hk); (case k1 => exact B); (case k2 => exact F); (case k3 => exact X); (case k4 => exact N); (case k5 => exact T); (case k6 => k_is); (case k7 => k_is); (case k8 => ktr_room); (case k9 => first | exact BindsTo.of_eq rfl | exact binds_K (by k_in) rfl (by k_is) rfl rfl rfl); (case c5 => decide); (case kB => exact locs (by kernel_rfl!)); (case c2 => exact rfl); (case c3 => exact rfl); (case c4 => exact rfl); k_whole; intro g' L' h' FG' F' N' B' X' T'; (try dsimp only [List.reverse, List.reverseAux] at F'); (try dsimp only); (try k_fold); (try (show (let ak : Around := _; wpAny _ ak _ _ _ _)); intro ak))
  k_extra "m_steps"))
set_option maxHeartbeats 4000000 in
theorem is_word_part_ok {w : World} {news : Led} {a : Addr} {k : Kd} (hs : SynIn news a k) :
    Gives w 225 1 [.ref a] news (fun r => r = .bool (decide (k = .w ∨ k = .u))) := (by exact qz : Qz _ (by
  obtain ⟨dx, e1, e2, e3, k1, k2, k3, t1, t3, mv, m1, m2⟩ := hs
  k_with "m_val" => (refine congrArg Value.bool ?_; cases k <;> simp_all)
  constructor
  intro pF loF meF mgF mbF dp un gd cnF csF aF cdF clF outer A₀ base h₀ LF mF sF QF EF B F X N T hk hd hu hret
  refine wpAny_call ?_
  k_dflt (refine' code_defK ([(Str.ofString "self", .ref a)]).reverse ?k1 ?k2 ?k3 ?k4 ?k5 ?kA ?kF ?kK ?k6 ?k7 ?k8 ?k9 ?kB ?_ ?c2 ?c3 ?c4 ?c5; (case kA => exact rfl); (case kF => exact rfl); (case kK => exact hk); (case k1 => exact B); (case k2 => exact F); (case k3 => exact X); (case k4 => exact N); (case k5 => exact T); (case k6 => k_is); (case k7 => k_is); (case k8 => ktr_room); (case k9 => first | exact BindsTo.of_eq rfl | exact binds_K (by k_in) rfl (by k_is) rfl rfl rfl); (case c5 => decide); (case kB => exact locs (by kernel_rfl!)); (case c2 => exact rfl); (case c3 => exact rfl); (case c4 => exact rfl); k_whole; intro g' L' h' FG' F' N' B' X' T'; (try dsimp only [List.reverse, List.reverseAux] at F'); (try dsimp only); (try k_fold); (try (show (let ak : Around := _; wpAny _ ak _ _ _ _)); intro ak))
  k_extra "m_steps"))
set_option maxHeartbeats 4000000 in
theorem has_ok {w : World} {news : Led} {a : Addr} {k : Kd} {x : Str} {t : Tok} (hs : SynIn news a k) (hx : x = Str.ofString "p" ∨ x = Str.ofString "1") :
    Gives w 211 1 [.ref a, .str x t] news (fun r => r = .bool false) := (by exact qz : Qz _ (by
  obtain ⟨dx, e1, e2, e3, k1, k2, k3, t1, t3, mv, m1, m2⟩ := hs
  k_with "m_val" => (rcases hx with rfl | rfl <;> (refine congrArg Value.bool ?_; decide +kernel))
  constructor
  intro pF loF meF mgF mbF dp un gd cnF csF aF cdF clF outer A₀ base h₀ LF mF sF QF EF B F X N T hk hd hu hret
  refine wpAny_call ?_
  k_dflt (refine' code_defK ([(Str.ofString "self", .ref a), (Str.ofString "flag", .str x t)]).reverse ?k1 ?k2 ?k3 ?k4 ?k5 ?kA ?kF ?kK ?k6 ?k7 ?k8 ?k9 ?kB ?_ ?c2 ?c3 ?c4 ?c5; (case kA => exact rfl); (case kF => exact rfl); (case kK => exact hk); (case k1 => exact B); (case k2 => exact F); (case k3 => exact X); (case k4 => exact N); (case k5 => exact T); (case k6 => k_is); (case k7 => k_is); (case k8 => ktr_room); (case k9 => first | exact BindsTo.of_eq rfl | exact binds_K (by k_in) rfl (by k_is) rfl rfl rfl); (case c5 => decide); (case kB => exact locs (by kernel_rfl!)); (case c2 => exact rfl); (case c3 => exact rfl); (case c4 => exact rfl); k_whole; intro g' L' h' FG' F' N' B' X' T'; (try dsimp only [List.reverse, List.reverseAux] at F'); (try dsimp only); (try k_fold); (try (show (let ak : Around := _; wpAny _ ak _ _ _ _)); intro ak))
  k_extra "m_steps"))
theorem u21 : True := by
  k_with_none
  k_with "m_om" => (with_reducible first | decide | assumption | ((show @LT.lt Nat _ _ _); first | exact rm_a ‹_› rfl | exact rm_b ‹_› rfl | exact rm_c ‹_› | exact rm_d ‹_› | exact tn_a ‹_› | exact tn_b ‹_› | exact tn_c ‹_› | exact tn_d ‹_› | exact rm_e ‹_› rfl | exact tp_d ‹_› | exact tp_e ‹_› ‹_› | exact tp_h ‹_› | exact tp_v ‹_› | exact tr_a ‹_›) | ((show @LE.le Nat _ _ _); first | exact tn_h ‹_› | exact tp_c ‹_› | exact tp_k ‹_› ‹_› | exact tp_l ‹_› ‹_› ‹_› | exact tp_x ‹_› ‹_› | exact Nat.le_trans ‹_› ‹_›) | ((show @LT.lt Int _ _ _); first | exact tn_m ‹_› | exact tn_n ‹_› | exact tp_p ‹_› ‹_› ‹_› ‹_› | exact tp_q ‹_› ‹_› ‹_› | exact Int.lt_of_toNat_lt ‹_› | exact Int.lt_of_lt_of_le ‹_› ‹_› | exact Int.sub_left_lt_of_lt_add ‹_› | exact tr_b ‹_›) | ((show @LE.le Int _ _ _); first | exact tn_i ‹_› | exact tn_j ‹_› | exact tn_k ‹_› | exact tn_l ‹_› | exact tn_o ‹_› | exact tp_i ‹_› ‹_› | exact tp_a ‹_› ‹_› | exact tp_a1 ‹_› ‹_› | exact tp_b ‹_› | exact tp_r ‹_› ‹_› | exact tp_s ‹_› | exact Int.le_of_lt (Int.not_le.mp ‹_›) | exact Int.sub_nonneg_of_le ‹_› | exact Int.sub_nonneg_of_le (tn_i ‹_›) | exact Int.le_add_of_nonneg_right (Int.natCast_nonneg _)) | ((show @Eq Nat _ _); first | exact tn_s ‹_› | exact tn_t ‹_› | exact (tn_s ‹_›).symm | exact tp_g ‹_› | exact tn_s (Int.not_le.mp ‹_›) | exact tp_u ‹_› | exact tp_j) | ((show @Eq Int _ _); first | exact tn_e ‹_› | exact tn_f ‹_› | exact tn_g ‹_› | exact tp_m ‹_› | exact tp_n ‹_› | exact tp_o ‹_› ‹_› | exact tp_w ‹_› ‹_› | exact tp_y) | exact tp_f ‹_› ‹_› | exact tp_f ‹_› | exact tp_f (Int.not_lt.mp ‹_›) | exact tp_t ‹_› ‹_› | exact Nat.ne_of_gt ‹_› | exact Nat.ne_of_lt ‹_› | exact Nat.ne_of_gt (Nat.lt_trans ‹_› ‹_›))
  k_with "m_sd1" => ((case k1 | k2 | k3 | k4 | k5 => assumption))
  k_with "m_sd2" => ((case kK => first | exact rfl | assumption); (case kd => first | (dsimp only [ktrTop, Around.deeper]; omega) | ktr_room); (case ku => first | (dsimp only [ktrTop, Around.deeper]; omega) | ktr_units))
  k_with "m_steps" => (repeat' (first | ((first | (k_unfold) | fail); (try dsimp only)) | (first | (k_extra "m_ret") | fail) | (first | (walk1) | fail) | (dsimp only; (first | (walk1) | fail)) | fail "no step"))
  k_with "m_ret" => ((with_reducible refine' hret _ _ _ ?_ ?e2 ?e3); (case e2 => k_asm); (case e3 => first | k_asm | exact cb_drop (by assumption) (by k_extra "m_sub")); (try k_extra "m_val"))
  k_with "m_call" => k_dflt ((first | (refine' Gives.useM ?G ?k1 ?k2 ?k3 ?k4 ?k5 ?kK ?kd ?ku ?_; k_extra "m_sd1"; (case G => k_extra "m_con"); k_extra "m_sd2"; intro r9 h9 tk9 hR9 F9 N9; (try k_sweep); (k_extra "m_open"); ((try dsimp only); (try k_fold))) | fail))
  k_with "m_call" => k_dflt ((first | (refine' Gives.useI ?G ?k1 ?k2 ?k3 ?k4 ?k5 ?kK ?kd ?ku ?_; (case G => k_extra "m_con"); k_extra "m_sd1"; k_extra "m_sd2"; intro t9 h9 tk9 F9 N9; (try k_sweep); (try k_extra "m_openI"); (try dsimp only); (try k_fold)) | fail))
  k_with "m_eqs" => ((with_reducible show wpAny _ _ (compareOp CmpOp.Eq (Value.str (Kd.str _) _) (Value.str _ _)) _ _ _); with_reducible first | refine eq_kd (kd_w _) ?_ | refine eq_kd (kd_u _) ?_ | refine eq_kd (kd_o _) ?_ | refine eq_kd (kd_c _) ?_ | refine eq_kd (kd_n1 _) ?_ | refine eq_kd (kd_n2 _) ?_ | refine eq_kd (kd_n3 _) ?_ | refine eq_kd (kd_n4 _) ?_ | refine eq_kd (kd_n5 _) ?_ | refine eq_kd (kd_n6 _) ?_ | refine eq_kd (kd_n7 _) ?_ | refine eq_kd (kd_n8 _) ?_)
  k_with "m_ne" => ((with_reducible refine ofs_ne ?_); simp only [ne_eq, String.reduceEq, not_false_eq_true]; done)
  k_with "m_look" => (first | k_dflt (exact rfl) | repeat (first | with_reducible exact look_here | with_reducible exact look_ithere | with_reducible refine Eq.trans (look_next (by k_extra "m_ne")) ?_ | with_reducible refine Eq.trans (look_itnext (by k_extra "m_ne")) ?_ | with_reducible refine Eq.trans (look_off (by k_extra "m_off")) ?_ | with_reducible refine Eq.trans look_nil ?_ | assumption | fail "m_look"))
  k_with "m_kind" => (first | kernel_rfl! | k_dflt (exact rfl) | repeat (first | with_reducible exact kind_here | with_reducible refine Eq.trans (kind_next (by k_extra "m_ne")) ?_ | fail "m_kind"))
  k_with "m_name" => (with_reducible refine' nameK ?k0 ?k1 ?k2 ?k5 ?k3 ?k6 ?_; (case k5 => k_extra "m_kind"); (case k0 => first | assumption | k_dflt assumption); (case k1 => assumption); (case k2 => assumption); (case k3 => k_dflt k_is); (case k6 => simp only [ne_eq, String.reduceEq, not_false_eq_true]))
  k_with "m_name" => (first | (with_reducible refine' ldK ?k1 ?k4 ?k2 ?k5 ?_; (case k4 => k_extra "m_kind"); (case k1 => first | assumption | k_dflt assumption); (case k2 => k_extra "m_look"); (case k5 => simp only [ne_eq, String.reduceEq, not_false_eq_true])) | fail)
  k_with "m_ev" => (with_reducible refine' ev_ld ?k1 ?k4 ?k2 ?k5; (case k4 => k_extra "m_kind"); (case k1 => first | assumption | k_dflt assumption); (case k2 => k_extra "m_look"); (case k5 => simp only [ne_eq, String.reduceEq, not_false_eq_true]))
  k_with "m_spl" => (with_reducible refine' args_ev ?zv1 ?_; (case zv1 => k_extra "m_ev"))
  k_with "m_spl" => (with_reducible first | (refine' args_ev1 ?zv1 ?_; (case zv1 => k_extra "m_ev")) | (refine' args_ev2 ?zv1 ?zv2 ?_; (case zv1 => k_extra "m_ev"); (case zv2 => k_extra "m_ev")) | (refine' args_ev3 ?zv1 ?zv2 ?zv3 ?_; (case zv1 => k_extra "m_ev"); (case zv2 => k_extra "m_ev"); (case zv3 => k_extra "m_ev")) | (refine' args_ev4 ?zv1 ?zv2 ?zv3 ?zv4 ?_; (case zv1 => k_extra "m_ev"); (case zv2 => k_extra "m_ev"); (case zv3 => k_extra "m_ev"); (case zv4 => k_extra "m_ev")))
  k_with "m_att" => (with_reducible refine' attr_ev ?zv1 ?_; (case zv1 => k_extra "m_ev"))
  k_with "m_cam" => (with_reducible refine' method_ev ?zv1 ?_; (case zv1 => k_extra "m_ev"))
  k_with "m_itc" => (with_reducible (first | (refine' itc_ev2 ?zv1 ?zv2 ?_; (case zv1 => k_extra "m_ev"); (case zv2 => k_extra "m_ev")) | (refine' itc_ei ?zv1 ?_; (case zv1 => k_extra "m_ev")) | (refine' itc_ev ?zv1 ?_; (case zv1 => k_extra "m_ev"))))
  k_with "m_rete" => (with_reducible refine' ret_ev ?zv1 ?_; (case zv1 => k_extra "m_ev"))
  k_with "m_ite" => (first | with_reducible refine ite_tt ?_ | with_reducible refine ite_ff ?_ | (with_reducible refine dec_pos ?c ?_; (case c => omega)) | (with_reducible refine dec_neg ?c ?_; (case c => omega)) | (with_reducible refine ine_pos ?c ?_; (case c => omega)) | (with_reducible refine ine_neg ?c ?_; (case c => omega)) | (with_reducible refine ieq_pos ?c ?_; (case c => omega)) | (with_reducible refine ieq_neg ?c ?_; (case c => omega)) | (with_reducible refine split_dec ?_ ?_ <;> intro _) | (with_reducible refine split_ine ?_ ?_ <;> intro _) | (with_reducible refine split_ieq ?_ ?_ <;> intro _))
  k_with "m_view" => (first | assumption | exact ViewIn.mono (by assumption) (by k_extra "m_sub"))
  k_with "m_con" => ((with_reducible show Gives _ 57 _ _ _ _); exact code_at_ok (by k_extra "m_view"))
  k_with "m_open" => subst hR9
  trivial
set_option maxHeartbeats 4000000 in
theorem own_ok {w : World} {news : Led} {tb : Addr} {syn : Kd → Addr} {x : Int} {t : Tok} (ht : TableIn w news tb syn) (hx : Sgn x) :
    Gives w 292 1 [.ref tb, .int x t] news (fun r => r = .ref (syn (kdOf x))) := (by exact qz : Qz _ (by
  obtain ⟨td, rd, o, g1, g2, j1, j2, n1, n2, n3, hd9, lo9, hy⟩ := ht
  obtain ⟨dx, e1, e2, e3, k1, k2, k3, t1, t3, mv, m1, m2⟩ := hy (kdOf x)
  k_with "m_dget" => k_dflt (first | (refine' kdg_get2 (knd := PySem.intKind PR w) ?N n3 hd9 lo9 (intKind_is _ _ _ _) _ (tabKv_at hx) ?_; (case N => assumption); (try dsimp only [Option.getD_some])) | fail)
  k_with "m_meth" => k_dflt (first | (refine' kdg_method (knd := PySem.intKind PR w) ?N n3 hd9 ?_; (case N => assumption)) | fail)
  k_with "m_val" => rfl
  constructor
  intro pF loF meF mgF mbF dp un gd cnF csF aF cdF clF outer A₀ base h₀ LF mF sF QF EF B F X N T hk hd hu hret
  refine wpAny_call ?_
  k_dflt (refine' code_defK ([(Str.ofString "self", .ref tb), (Str.ofString "code", .int x t)]).reverse ?k1 ?k2 ?k3 ?k4 ?k5 ?kA ?kF ?kK ?k6 ?k7 ?k8 ?k9 ?kB ?_ ?c2 ?c3 ?c4 ?c5; (case kA => exact rfl); (case kF => exact rfl); (case kK => exact hk); (case k1 => exact B); (case k2 => exact F); (case k3 => exact X); (case k4 => exact N); (case k5 => exact T); (case k6 => k_is); (case k7 => k_is); (case k8 => ktr_room); (case k9 => first | exact BindsTo.of_eq rfl | exact binds_K (by k_in) rfl (by k_is) rfl rfl rfl); (case c5 => decide); (case kB => exact locs (by kernel_rfl!)); (case c2 => exact rfl); (case c3 => exact rfl); (case c4 => exact rfl); k_whole; intro g' L' h' FG' F' N' B' X' T'; (try dsimp only [List.reverse, List.reverseAux] at F'); (try dsimp only); (try k_fold); (try (show (let ak : Around := _; wpAny _ ak _ _ _ _)); intro ak))
  k_extra "m_steps"))
set_option maxHeartbeats 4000000 in
theorem at_ok {w : World} {news : Led} {tb : Addr} {syn : Kd → Addr} {x : Int} {t : Tok} (ht : TableIn w news tb syn) (hx : Sgn x) :
    Gives w 299 2 [.ref tb, .int x t] news (fun r => r = .ref (syn (kdOf x))) := (by exact qz : Qz _ (by
  k_with "m_con" => ((with_reducible show Gives _ 292 _ _ _ _); exact own_ok (by assumption) hx)
  k_with "m_while" => (first | (
    (rename Fr _ _ _ _ => lF); (rename News _ _ _ _ => lN)
    refine' ksw_while (fun _ : Unit => news) (fun c => [(Str.ofString "table", .ref tb)]) (fun _ => True) [Str.ofString "found"] (fun c => True) (fun c => 0) () lF lN trivial ?kk trivial ?_
    (case kk => kst_all)
    clear lF lN
    rintro ⟨⟩ u h tk - - lF lN
    (try dsimp only at lF)
    (try dsimp only at *)
    (try k_fold))              | fail)
  obtain ⟨td, rd, o, g1, g2, j1, j2, n1, n2, n3, hd9, lo9, hy⟩ := id ht
  k_with "m_val" => rfl
  constructor
  intro pF loF meF mgF mbF dp un gd cnF csF aF cdF clF outer A₀ base h₀ LF mF sF QF EF B F X N T hk hd hu hret
  refine wpAny_call ?_
  k_dflt (refine' code_defK ([(Str.ofString "self", .ref tb), (Str.ofString "code", .int x t)]).reverse ?k1 ?k2 ?k3 ?k4 ?k5 ?kA ?kF ?kK ?k6 ?k7 ?k8 ?k9 ?kB ?_ ?c2 ?c3 ?c4 ?c5; (case kA => exact rfl); (case kF => exact rfl); (case kK => exact hk); (case k1 => exact B); (case k2 => exact F); (case k3 => exact X); (case k4 => exact N); (case k5 => exact T); (case k6 => k_is); (case k7 => k_is); (case k8 => ktr_room); (case k9 => first | exact BindsTo.of_eq rfl | exact binds_K (by k_in) rfl (by k_is) rfl rfl rfl); (case c5 => decide); (case kB => exact locs (by kernel_rfl!)); (case c2 => exact rfl); (case c3 => exact rfl); (case c4 => exact rfl); k_whole; intro g' L' h' FG' F' N' B' X' T'; (try dsimp only [List.reverse, List.reverseAux] at F'); (try dsimp only); (try k_fold); (try (show (let ak : Around := _; wpAny _ ak _ _ _ _)); intro ak))
  k_extra "m_steps"))
set_option maxHeartbeats 4000000 in
theorem syntax_at_ok {w : World} {news : Led} {v tb : Addr} {cs : List Int} {p x : Int} {syn : Kd → Addr} {t : Tok} (hv : ViewIn news v cs p) (ht : TableIn w news tb syn) (hg : Sgns cs) :
    Gives w 348 3 [.ref v, .ref tb, .int x t] news (fun r => (0 ≤ x - p ∧ x - p < cs.length ∧ r = .ref (syn (kdOf (codeR cs (x - p))))) ∨ ((x - p < 0 ∨ (cs.length : Int) ≤ x - p) ∧ r = .none)) := (by exact qz : Qz _ (by
  obtain ⟨dx, lc, e1, e2, k1, k2, tt, vs, nn9, m1, m2, m3, hI, hlen, hp0, hp1⟩ := id hv
  obtain ⟨td, rd, o, g1, g2, j1, j2, n1, n2, n3, hd9, lo9, hy⟩ := id ht
  k_with "m_con" => ((with_reducible show Gives _ 299 _ _ _ _); exact at_ok (by assumption) (codeR_sgn hg (by assumption)))
  k_with "m_val" => (first | exact .inl ⟨codeR_lo (by assumption), codeR_hi (by assumption), rfl⟩ | exact .inr ⟨codeR_off hg (by assumption), rfl⟩)
  constructor
  intro pF loF meF mgF mbF dp un gd cnF csF aF cdF clF outer A₀ base h₀ LF mF sF QF EF B F X N T hk hd hu hret
  refine wpAny_call ?_
  k_dflt (refine' code_defK ([(Str.ofString "view", .ref v), (Str.ofString "table", .ref tb), (Str.ofString "place", .int x t)]).reverse ?k1 ?k2 ?k3 ?k4 ?k5 ?kA ?kF ?kK ?k6 ?k7 ?k8 ?k9 ?kB ?_ ?c2 ?c3 ?c4 ?c5; (case kA => exact rfl); (case kF => exact rfl); (case kK => exact hk); (case k1 => exact B); (case k2 => exact F); (case k3 => exact X); (case k4 => exact N); (case k5 => exact T); (case k6 => k_is); (case k7 => k_is); (case k8 => ktr_room); (case k9 => first | exact BindsTo.of_eq rfl | exact binds_K (by k_in) rfl (by k_is) rfl rfl rfl); (case c5 => decide); (case kB => exact locs (by kernel_rfl!)); (case c2 => exact rfl); (case c3 => exact rfl); (case c4 => exact rfl); k_whole; intro g' L' h' FG' F' N' B' X' T'; (try dsimp only [List.reverse, List.reverseAux] at F'); (try dsimp only); (try k_fold); (try (show (let ak : Around := _; wpAny _ ak _ _ _ _)); intro ak))
  k_extra "m_steps"))
theorem syntax_in_ok {w : World} {news : Led} {v tb : Addr} {cs : List Int} {p x : Int} {syn : Kd → Addr} {t : Tok} (hv : ViewIn news v cs p) (ht : TableIn w news tb syn) (hg : Sgns cs) (h0 : p ≤ x) (h1 : x < p + cs.length) :
    Gives w 348 3 [.ref v, .ref tb, .int x t] news (fun r => r = .ref (syn (kdOf (codeR cs (x - p))))) :=
  (syntax_at_ok hv ht hg).mono fun r h => h.elim (fun q => q.2.2) fun q => by omega
theorem syntax_out_ok {w : World} {news : Led} {v tb : Addr} {cs : List Int} {p x : Int} {syn : Kd → Addr} {t : Tok} (hv : ViewIn news v cs p) (ht : TableIn w news tb syn) (hg : Sgns cs) (h0 : x < p ∨ p + cs.length ≤ x) :
    Gives w 348 3 [.ref v, .ref tb, .int x t] news (fun r => r = .none) :=
  (syntax_at_ok hv ht hg).mono fun r h => h.elim (fun q => by omega) fun q => q.2

theorem u22 : True := by
  k_with_none
  k_with "m_om" => (with_reducible first | decide | assumption | ((show @LT.lt Nat _ _ _); first | exact rm_a ‹_› rfl | exact rm_b ‹_› rfl | exact rm_c ‹_› | exact rm_d ‹_› | exact tn_a ‹_› | exact tn_b ‹_› | exact tn_c ‹_› | exact tn_d ‹_› | exact rm_e ‹_› rfl | exact tp_d ‹_› | exact tp_e ‹_› ‹_› | exact tp_h ‹_› | exact tp_v ‹_› | exact tr_a ‹_›) | ((show @LE.le Nat _ _ _); first | exact tn_h ‹_› | exact tp_c ‹_› | exact tp_k ‹_› ‹_› | exact tp_l ‹_› ‹_› ‹_› | exact tp_x ‹_› ‹_› | exact Nat.le_trans ‹_› ‹_›) | ((show @LT.lt Int _ _ _); first | exact tn_m ‹_› | exact tn_n ‹_› | exact tp_p ‹_› ‹_› ‹_› ‹_› | exact tp_q ‹_› ‹_› ‹_› | exact Int.lt_of_toNat_lt ‹_› | exact Int.lt_of_lt_of_le ‹_› ‹_› | exact Int.sub_left_lt_of_lt_add ‹_› | exact tr_b ‹_›) | ((show @LE.le Int _ _ _); first | exact tn_i ‹_› | exact tn_j ‹_› | exact tn_k ‹_› | exact tn_l ‹_› | exact tn_o ‹_› | exact tp_i ‹_› ‹_› | exact tp_a ‹_› ‹_› | exact tp_a1 ‹_› ‹_› | exact tp_b ‹_› | exact tp_r ‹_› ‹_› | exact tp_s ‹_› | exact Int.le_of_lt (Int.not_le.mp ‹_›) | exact Int.sub_nonneg_of_le ‹_› | exact Int.sub_nonneg_of_le (tn_i ‹_›) | exact Int.le_add_of_nonneg_right (Int.natCast_nonneg _)) | ((show @Eq Nat _ _); first | exact tn_s ‹_› | exact tn_t ‹_› | exact (tn_s ‹_›).symm | exact tp_g ‹_› | exact tn_s (Int.not_le.mp ‹_›) | exact tp_u ‹_› | exact tp_j) | ((show @Eq Int _ _); first | exact tn_e ‹_› | exact tn_f ‹_› | exact tn_g ‹_› | exact tp_m ‹_› | exact tp_n ‹_› | exact tp_o ‹_› ‹_› | exact tp_w ‹_› ‹_› | exact tp_y) | exact tp_f ‹_› ‹_› | exact tp_f ‹_› | exact tp_f (Int.not_lt.mp ‹_›) | exact tp_t ‹_› ‹_› | exact Nat.ne_of_gt ‹_› | exact Nat.ne_of_lt ‹_› | exact Nat.ne_of_gt (Nat.lt_trans ‹_› ‹_›))
  k_with "m_sd1" => ((case k1 | k2 | k3 | k4 | k5 => assumption))
  k_with "m_sd2" => ((case kK => first | exact rfl | assumption); (case kd => first | (dsimp only [ktrTop, Around.deeper]; omega) | ktr_room); (case ku => first | (dsimp only [ktrTop, Around.deeper]; omega) | ktr_units))
  k_with "m_steps" => (repeat' (first | ((first | (k_unfold) | fail); (try dsimp only)) | (first | (k_extra "m_ret") | fail) | (first | (walk1) | fail) | (dsimp only; (first | (walk1) | fail)) | fail "no step"))
  k_with "m_ret" => ((with_reducible refine' hret _ _ _ ?_ ?e2 ?e3); (case e2 => k_asm); (case e3 => first | k_asm | exact cb_drop (by assumption) (by k_extra "m_sub")); (try k_extra "m_val"))
  k_with "m_call" => k_dflt ((first | (refine' Gives.useM ?G ?k1 ?k2 ?k3 ?k4 ?k5 ?kK ?kd ?ku ?_; k_extra "m_sd1"; (case G => k_extra "m_con"); k_extra "m_sd2"; intro r9 h9 tk9 hR9 F9 N9; (try k_sweep); (k_extra "m_open"); ((try dsimp only); (try k_fold))) | fail))
  k_with "m_eqs" => ((with_reducible show wpAny _ _ (compareOp CmpOp.Eq (Value.str (Kd.str _) _) (Value.str _ _)) _ _ _); with_reducible first | refine eq_kd (kd_w _) ?_ | refine eq_kd (kd_u _) ?_ | refine eq_kd (kd_o _) ?_ | refine eq_kd (kd_c _) ?_ | refine eq_kd (kd_n1 _) ?_ | refine eq_kd (kd_n2 _) ?_ | refine eq_kd (kd_n3 _) ?_ | refine eq_kd (kd_n4 _) ?_ | refine eq_kd (kd_n5 _) ?_ | refine eq_kd (kd_n6 _) ?_ | refine eq_kd (kd_n7 _) ?_ | refine eq_kd (kd_n8 _) ?_)
  k_with "m_ne" => ((with_reducible refine ofs_ne ?_); simp only [ne_eq, String.reduceEq, not_false_eq_true]; done)
  k_with "m_look" => (first | k_dflt (exact rfl) | repeat (first | with_reducible exact look_here | with_reducible exact look_ithere | with_reducible refine Eq.trans (look_next (by k_extra "m_ne")) ?_ | with_reducible refine Eq.trans (look_itnext (by k_extra "m_ne")) ?_ | with_reducible refine Eq.trans (look_off (by k_extra "m_off")) ?_ | with_reducible refine Eq.trans look_nil ?_ | assumption | fail "m_look"))
  k_with "m_kind" => (first | kernel_rfl! | k_dflt (exact rfl) | repeat (first | with_reducible exact kind_here | with_reducible refine Eq.trans (kind_next (by k_extra "m_ne")) ?_ | fail "m_kind"))
  k_with "m_name" => (with_reducible refine' nameK ?k0 ?k1 ?k2 ?k5 ?k3 ?k6 ?_; (case k5 => k_extra "m_kind"); (case k0 => first | assumption | k_dflt assumption); (case k1 => assumption); (case k2 => assumption); (case k3 => k_dflt k_is); (case k6 => simp only [ne_eq, String.reduceEq, not_false_eq_true]))
  k_with "m_ev" => (with_reducible refine' ev_name ?k0 ?k1 ?k2 ?k5 ?k3 ?k6; (case k5 => k_extra "m_kind"); (case k0 => first | assumption | k_dflt assumption); (case k1 => assumption); (case k2 => assumption); (case k3 => k_dflt k_is); (case k6 => simp only [ne_eq, String.reduceEq, not_false_eq_true]))
  k_with "m_ev" => (with_reducible refine' ev_ld ?k1 ?k4 ?k2 ?k5; (case k4 => k_extra "m_kind"); (case k1 => first | assumption | k_dflt assumption); (case k2 => k_extra "m_look"); (case k5 => simp only [ne_eq, String.reduceEq, not_false_eq_true]))
  k_with "m_spl" => (with_reducible refine' args_ev ?zv1 ?_; (case zv1 => k_extra "m_ev"))
  k_with "m_spl" => (with_reducible first | (refine' args_ev1 ?zv1 ?_; (case zv1 => k_extra "m_ev")) | (refine' args_ev2 ?zv1 ?zv2 ?_; (case zv1 => k_extra "m_ev"); (case zv2 => k_extra "m_ev")) | (refine' args_ev3 ?zv1 ?zv2 ?zv3 ?_; (case zv1 => k_extra "m_ev"); (case zv2 => k_extra "m_ev"); (case zv3 => k_extra "m_ev")) | (refine' args_ev4 ?zv1 ?zv2 ?zv3 ?zv4 ?_; (case zv1 => k_extra "m_ev"); (case zv2 => k_extra "m_ev"); (case zv3 => k_extra "m_ev"); (case zv4 => k_extra "m_ev")))
  k_with "m_att" => (with_reducible refine' attr_ev ?zv1 ?_; (case zv1 => k_extra "m_ev"))
  k_with "m_cal" => (with_reducible refine' call_ev ?zv1 ?_; (case zv1 => k_extra "m_ev"))
  k_with "m_cam" => (with_reducible refine' method_ev ?zv1 ?_; (case zv1 => k_extra "m_ev"))
  k_with "m_bin" => (with_reducible (first | (refine' bin_ev2 ?zv1 ?zv2 ?_; (case zv1 => k_extra "m_ev"); (case zv2 => k_extra "m_ev")) | (refine' bin_ei ?zv1 ?_; (case zv1 => k_extra "m_ev")) | (refine' bin_ev ?zv1 ?_; (case zv1 => k_extra "m_ev"))))
  k_with "m_itc" => (with_reducible (first | (refine' itc_ev2 ?zv1 ?zv2 ?_; (case zv1 => k_extra "m_ev"); (case zv2 => k_extra "m_ev")) | (refine' itc_ei ?zv1 ?_; (case zv1 => k_extra "m_ev")) | (refine' itc_ev ?zv1 ?_; (case zv1 => k_extra "m_ev"))))
  k_with "m_ite" => (first | with_reducible refine ite_tt ?_ | with_reducible refine ite_ff ?_ | (with_reducible refine dec_pos ?c ?_; (case c => omega)) | (with_reducible refine dec_neg ?c ?_; (case c => omega)) | (with_reducible refine ine_pos ?c ?_; (case c => omega)) | (with_reducible refine ine_neg ?c ?_; (case c => omega)) | (with_reducible refine ieq_pos ?c ?_; (case c => omega)) | (with_reducible refine ieq_neg ?c ?_; (case c => omega)) | (with_reducible refine split_dec ?_ ?_ <;> intro _) | (with_reducible refine split_ine ?_ ?_ <;> intro _) | (with_reducible refine split_ieq ?_ ?_ <;> intro _))
  k_with "m_sub" => (intro q9 h9; repeat' (first | exact h9 | refine List.mem_append_left _ ?_ | refine List.mem_cons_of_mem _ ?_))
  k_with "m_view" => (first | assumption | exact ViewIn.mono (by assumption) (by k_extra "m_sub"))
  k_with "m_syn" => (first | assumption | exact SynIn.mono (by assumption) (by k_extra "m_sub"))
  k_with "m_con" => ((with_reducible show Gives _ 218 _ _ _ _); exact is_escape_ok (by k_extra "m_syn"))
  k_with "m_con" => ((with_reducible show Gives _ 211 _ _ _ _); exact has_ok (by k_extra "m_syn") (.inr rfl))
  k_with "m_open" => subst hR9
  k_with "m_tab" => (first | assumption | exact TableIn.mono (by assumption) (by k_extra "m_sub"))
  k_with "m_con" => ((with_reducible show Gives _ 348 _ _ _ _); exact syntax_in_ok (by k_extra "m_view") (by k_extra "m_tab") (by assumption) (by omega) (by omega))
  k_with "m_con" => ((with_reducible show Gives _ 348 _ _ _ _); exact syntax_out_ok (by k_extra "m_view") (by k_extra "m_tab") (by assumption) (by omega))
  trivial
set_option maxHeartbeats 4000000 in
theorem begin_mark_ok {w : World} {news : Led} {v tb : Addr} {cs : List Int} {p x : Int} {syn : Kd → Addr} {t : Tok} (hv : ViewIn news v cs p) (ht : TableIn w news tb syn) (hg : Sgns cs) (h0 : p ≤ x) (h1 : x < p + cs.length) :
    Gives w 362 4 [.ref v, .ref tb, .int x t] news (fun r => r = .none) := (by exact qz : Qz _ (by
  obtain ⟨dx, lc, e1, e2, k1, k2, tt, vs, nn9, m1, m2, m3, hI, hlen, hp0, hp1⟩ := id hv
  obtain ⟨td, rd, o, g1, g2, j1, j2, n1, n2, n3, hd9, lo9, hy⟩ := id ht
  have hs9 := hy (kdOf (codeR cs (x - p)))
  obtain ⟨dx9, d1, d2, d3, i1, i2, i3, t1, t3, mv, o1, o2⟩ := id hs9
  have hb : x + 1 < p + cs.length ∨ p + cs.length ≤ x + 1 := by omega
  rcases hb with hb | hb
  · have hs8 := hy (kdOf (codeR cs (x + 1 - p)))
    k_with "m_val" => rfl
    constructor
    intro pF loF meF mgF mbF dp un gd cnF csF aF cdF clF outer A₀ base h₀ LF mF sF QF EF B F X N T hk hd hu hret
    refine wpAny_call ?_
    k_dflt (refine' code_defK ([(Str.ofString "view", .ref v), (Str.ofString "table", .ref tb), (Str.ofString "place", .int x t)]).reverse ?k1 ?k2 ?k3 ?k4 ?k5 ?kA ?kF ?kK ?k6 ?k7 ?k8 ?k9 ?kB ?_ ?c2 ?c3 ?c4 ?c5; (case kA => exact rfl); (case kF => exact rfl); (case kK => exact hk); (case k1 => exact B); (case k2 => exact F); (case k3 => exact X); (case k4 => exact N); (case k5 => exact T); (case k6 => k_is); (case k7 => k_is); (case k8 => ktr_room); (case k9 => first | exact BindsTo.of_eq rfl | exact binds_K (by k_in) rfl (by k_is) rfl rfl rfl); (case c5 => decide); (case kB => exact locs (by kernel_rfl!)); (case c2 => exact rfl); (case c3 => exact rfl); (case c4 => exact rfl); k_whole; intro g' L' h' FG' F' N' B' X' T'; (try dsimp only [List.reverse, List.reverseAux] at F'); (try dsimp only); (try k_fold); (try (show (let ak : Around := _; wpAny _ ak _ _ _ _)); intro ak))
    k_extra "m_steps"
  · k_with "m_val" => rfl
    constructor
    intro pF loF meF mgF mbF dp un gd cnF csF aF cdF clF outer A₀ base h₀ LF mF sF QF EF B F X N T hk hd hu hret
    refine wpAny_call ?_
    k_dflt (refine' code_defK ([(Str.ofString "view", .ref v), (Str.ofString "table", .ref tb), (Str.ofString "place", .int x t)]).reverse ?k1 ?k2 ?k3 ?k4 ?k5 ?kA ?kF ?kK ?k6 ?k7 ?k8 ?k9 ?kB ?_ ?c2 ?c3 ?c4 ?c5; (case kA => exact rfl); (case kF => exact rfl); (case kK => exact hk); (case k1 => exact B); (case k2 => exact F); (case k3 => exact X); (case k4 => exact N); (case k5 => exact T); (case k6 => k_is); (case k7 => k_is); (case k8 => ktr_room); (case k9 => first | exact BindsTo.of_eq rfl | exact binds_K (by k_in) rfl (by k_is) rfl rfl rfl); (case c5 => decide); (case kB => exact locs (by kernel_rfl!)); (case c2 => exact rfl); (case c3 => exact rfl); (case c4 => exact rfl); k_whole; intro g' L' h' FG' F' N' B' X' T'; (try dsimp only [List.reverse, List.reverseAux] at F'); (try dsimp only); (try k_fold); (try (show (let ak : Around := _; wpAny _ ak _ _ _ _)); intro ak))
    k_extra "m_steps"))
set_option maxHeartbeats 4000000 in
theorem is_quoted_ok {w : World} {news : Led} {v tb : Addr} {cs : List Int} {p x : Int} {syn : Kd → Addr} {t : Tok} (hv : ViewIn news v cs p) (ht : TableIn w news tb syn) (hg : Sgns cs) (h0 : p ≤ x) (h1 : x < p + cs.length) :
    Gives w 383 4 [.ref v, .ref tb, .int x t] news (fun r => r = .bool false) := (by exact qz : Qz _ (by
  obtain ⟨dx, lc, e1, e2, k1, k2, tt, vs, nn9, m1, m2, m3, hI, hlen, hp0, hp1⟩ := id hv
  obtain ⟨td, rd, o, g1, g2, j1, j2, n1, n2, n3, hd9, lo9, hy⟩ := id ht
  have hb : p ≤ x - 1 ∨ x - 1 < p := by omega
  rcases hb with hb | hb
  · have hs8 := hy (kdOf (codeR cs (x - 1 - p)))
    obtain ⟨dx9, d1, d2, d3, i1, i2, i3, t1, t3, mv, o1, o2⟩ := id hs8
    k_with "m_val" => rfl
    k_with "m_while" => (first | (
      (rename Fr _ _ _ _ => lF); (rename News _ _ _ _ => lN)
      refine' ksw_while (fun _ : Tok => news) (fun c => [(Str.ofString "before", .ref (syn (kdOf (codeR cs (x - 1 - p))))), (Str.ofString "count", .int 0 c)]) (fun _ => True) [] (fun c => True) (fun c => 0) _ lF lN trivial ?kk trivial ?_
      (case kk => kst_all)
      clear lF lN
      rintro c u h tk - - lF lN
      (try dsimp only at lF)
      (try dsimp only at *)
      (try k_fold))              | fail)
    constructor
    intro pF loF meF mgF mbF dp un gd cnF csF aF cdF clF outer A₀ base h₀ LF mF sF QF EF B F X N T hk hd hu hret
    refine wpAny_call ?_
    k_dflt (refine' code_defK ([(Str.ofString "view", .ref v), (Str.ofString "table", .ref tb), (Str.ofString "place", .int x t)]).reverse ?k1 ?k2 ?k3 ?k4 ?k5 ?kA ?kF ?kK ?k6 ?k7 ?k8 ?k9 ?kB ?_ ?c2 ?c3 ?c4 ?c5; (case kA => exact rfl); (case kF => exact rfl); (case kK => exact hk); (case k1 => exact B); (case k2 => exact F); (case k3 => exact X); (case k4 => exact N); (case k5 => exact T); (case k6 => k_is); (case k7 => k_is); (case k8 => ktr_room); (case k9 => first | exact BindsTo.of_eq rfl | exact binds_K (by k_in) rfl (by k_is) rfl rfl rfl); (case c5 => decide); (case kB => exact locs (by kernel_rfl!)); (case c2 => exact rfl); (case c3 => exact rfl); (case c4 => exact rfl); k_whole; intro g' L' h' FG' F' N' B' X' T'; (try dsimp only [List.reverse, List.reverseAux] at F'); (try dsimp only); (try k_fold); (try (show (let ak : Around := _; wpAny _ ak _ _ _ _)); intro ak))
    k_extra "m_steps"
  · k_with "m_val" => rfl
    k_with "m_while" => (first | (
      (rename Fr _ _ _ _ => lF); (rename News _ _ _ _ => lN)
      refine' ksw_while (fun _ : Tok => news) (fun c => [(Str.ofString "before", .none), (Str.ofString "count", .int 0 c)]) (fun _ => True) [] (fun c => True) (fun c => 0) _ lF lN trivial ?kk trivial ?_
      (case kk => kst_all)
      clear lF lN
      rintro c u h tk - - lF lN
      (try dsimp only at lF)
      (try dsimp only at *)
      (try k_fold))              | fail)
    constructor
    intro pF loF meF mgF mbF dp un gd cnF csF aF cdF clF outer A₀ base h₀ LF mF sF QF EF B F X N T hk hd hu hret
    refine wpAny_call ?_
    k_dflt (refine' code_defK ([(Str.ofString "view", .ref v), (Str.ofString "table", .ref tb), (Str.ofString "place", .int x t)]).reverse ?k1 ?k2 ?k3 ?k4 ?k5 ?kA ?kF ?kK ?k6 ?k7 ?k8 ?k9 ?kB ?_ ?c2 ?c3 ?c4 ?c5; (case kA => exact rfl); (case kF => exact rfl); (case kK => exact hk); (case k1 => exact B); (case k2 => exact F); (case k3 => exact X); (case k4 => exact N); (case k5 => exact T); (case k6 => k_is); (case k7 => k_is); (case k8 => ktr_room); (case k9 => first | exact BindsTo.of_eq rfl | exact binds_K (by k_in) rfl (by k_is) rfl rfl rfl); (case c5 => decide); (case kB => exact locs (by kernel_rfl!)); (case c2 => exact rfl); (case c3 => exact rfl); (case c4 => exact rfl); k_whole; intro g' L' h' FG' F' N' B' X' T'; (try dsimp only [List.reverse, List.reverseAux] at F'); (try dsimp only); (try k_fold); (try (show (let ak : Around := _; wpAny _ ak _ _ _ _)); intro ak))
    k_extra "m_steps"))
theorem u30 : True := by
  k_with_none
  k_with "m_om" => (with_reducible first | decide | assumption | ((show @LT.lt Nat _ _ _); first | exact rm_a ‹_› rfl | exact rm_b ‹_› rfl | exact rm_c ‹_› | exact rm_d ‹_› | exact tn_a ‹_› | exact tn_b ‹_› | exact tn_c ‹_› | exact tn_d ‹_› | exact rm_e ‹_› rfl | exact tp_d ‹_› | exact tp_e ‹_› ‹_› | exact tp_h ‹_› | exact tp_v ‹_› | exact tr_a ‹_›) | ((show @LE.le Nat _ _ _); first | exact tn_h ‹_› | exact tp_c ‹_› | exact tp_k ‹_› ‹_› | exact tp_l ‹_› ‹_› ‹_› | exact tp_x ‹_› ‹_› | exact Nat.le_trans ‹_› ‹_›) | ((show @LT.lt Int _ _ _); first | exact tn_m ‹_› | exact tn_n ‹_› | exact tp_p ‹_› ‹_› ‹_› ‹_› | exact tp_q ‹_› ‹_› ‹_› | exact Int.lt_of_toNat_lt ‹_› | exact Int.lt_of_lt_of_le ‹_› ‹_› | exact Int.sub_left_lt_of_lt_add ‹_› | exact tr_b ‹_›) | ((show @LE.le Int _ _ _); first | exact tn_i ‹_› | exact tn_j ‹_› | exact tn_k ‹_› | exact tn_l ‹_› | exact tn_o ‹_› | exact tp_i ‹_› ‹_› | exact tp_a ‹_› ‹_› | exact tp_a1 ‹_› ‹_› | exact tp_b ‹_› | exact tp_r ‹_› ‹_› | exact tp_s ‹_› | exact Int.le_of_lt (Int.not_le.mp ‹_›) | exact Int.sub_nonneg_of_le ‹_› | exact Int.sub_nonneg_of_le (tn_i ‹_›) | exact Int.le_add_of_nonneg_right (Int.natCast_nonneg _)) | ((show @Eq Nat _ _); first | exact tn_s ‹_› | exact tn_t ‹_› | exact (tn_s ‹_›).symm | exact tp_g ‹_› | exact tn_s (Int.not_le.mp ‹_›) | exact tp_u ‹_› | exact tp_j) | ((show @Eq Int _ _); first | exact tn_e ‹_› | exact tn_f ‹_› | exact tn_g ‹_› | exact tp_m ‹_› | exact tp_n ‹_› | exact tp_o ‹_› ‹_› | exact tp_w ‹_› ‹_› | exact tp_y) | exact tp_f ‹_› ‹_› | exact tp_f ‹_› | exact tp_f (Int.not_lt.mp ‹_›) | exact tp_t ‹_› ‹_› | exact Nat.ne_of_gt ‹_› | exact Nat.ne_of_lt ‹_› | exact Nat.ne_of_gt (Nat.lt_trans ‹_› ‹_›))
  k_with "m_sd1" => ((case k1 | k2 | k3 | k4 | k5 => assumption))
  k_with "m_sd2" => ((case kK => first | exact rfl | assumption); (case kd => first | (dsimp only [ktrTop, Around.deeper]; omega) | ktr_room); (case ku => first | (dsimp only [ktrTop, Around.deeper]; omega) | ktr_units))
  k_with "m_steps" => (repeat' (first | ((first | (k_unfold) | fail); (try dsimp only)) | (first | (k_extra "m_ret") | fail) | (first | (walk1) | fail) | (dsimp only; (first | (walk1) | fail)) | fail "no step"))
  k_with "m_ret" => ((with_reducible refine' hret _ _ _ ?_ ?e2 ?e3); (case e2 => k_asm); (case e3 => first | k_asm | exact cb_drop (by assumption) (by k_extra "m_sub")); (try k_extra "m_val"))
  k_with "m_call" => k_dflt ((first | (refine' Gives.useM ?G ?k1 ?k2 ?k3 ?k4 ?k5 ?kK ?kd ?ku ?_; k_extra "m_sd1"; (case G => k_extra "m_con"); k_extra "m_sd2"; intro r9 h9 tk9 hR9 F9 N9; (try k_sweep); (k_extra "m_open"); ((try dsimp only); (try k_fold))) | fail))
  k_with "m_ne" => ((with_reducible refine ofs_ne ?_); simp only [ne_eq, String.reduceEq, not_false_eq_true]; done)
  k_with "m_look" => (first | k_dflt (exact rfl) | repeat (first | with_reducible exact look_here | with_reducible exact look_ithere | with_reducible refine Eq.trans (look_next (by k_extra "m_ne")) ?_ | with_reducible refine Eq.trans (look_itnext (by k_extra "m_ne")) ?_ | with_reducible refine Eq.trans (look_off (by k_extra "m_off")) ?_ | with_reducible refine Eq.trans look_nil ?_ | assumption | fail "m_look"))
  k_with "m_kind" => (first | kernel_rfl! | k_dflt (exact rfl) | repeat (first | with_reducible exact kind_here | with_reducible refine Eq.trans (kind_next (by k_extra "m_ne")) ?_ | fail "m_kind"))
  k_with "m_name" => (first | (with_reducible refine' ldK ?k1 ?k4 ?k2 ?k5 ?_; (case k4 => k_extra "m_kind"); (case k1 => first | assumption | k_dflt assumption); (case k2 => k_extra "m_look"); (case k5 => simp only [ne_eq, String.reduceEq, not_false_eq_true])) | fail)
  k_with "m_ev" => (with_reducible refine' ev_name ?k0 ?k1 ?k2 ?k5 ?k3 ?k6; (case k5 => k_extra "m_kind"); (case k0 => first | assumption | k_dflt assumption); (case k1 => assumption); (case k2 => assumption); (case k3 => k_dflt k_is); (case k6 => simp only [ne_eq, String.reduceEq, not_false_eq_true]))
  k_with "m_ev" => (with_reducible refine' ev_ld ?k1 ?k4 ?k2 ?k5; (case k4 => k_extra "m_kind"); (case k1 => first | assumption | k_dflt assumption); (case k2 => k_extra "m_look"); (case k5 => simp only [ne_eq, String.reduceEq, not_false_eq_true]))
  k_with "m_spl" => (with_reducible refine' args_ev ?zv1 ?_; (case zv1 => k_extra "m_ev"))
  k_with "m_spl" => (with_reducible first | (refine' args_ev1 ?zv1 ?_; (case zv1 => k_extra "m_ev")) | (refine' args_ev2 ?zv1 ?zv2 ?_; (case zv1 => k_extra "m_ev"); (case zv2 => k_extra "m_ev")) | (refine' args_ev3 ?zv1 ?zv2 ?zv3 ?_; (case zv1 => k_extra "m_ev"); (case zv2 => k_extra "m_ev"); (case zv3 => k_extra "m_ev")) | (refine' args_ev4 ?zv1 ?zv2 ?zv3 ?zv4 ?_; (case zv1 => k_extra "m_ev"); (case zv2 => k_extra "m_ev"); (case zv3 => k_extra "m_ev"); (case zv4 => k_extra "m_ev")))
  k_with "m_att" => (with_reducible refine' attr_ev ?zv1 ?_; (case zv1 => k_extra "m_ev"))
  k_with "m_cal" => (with_reducible refine' call_ev ?zv1 ?_; (case zv1 => k_extra "m_ev"))
  k_with "m_bin" => (with_reducible (first | (refine' bin_ev2 ?zv1 ?zv2 ?_; (case zv1 => k_extra "m_ev"); (case zv2 => k_extra "m_ev")) | (refine' bin_ei ?zv1 ?_; (case zv1 => k_extra "m_ev")) | (refine' bin_ev ?zv1 ?_; (case zv1 => k_extra "m_ev"))))
  k_with "m_cmp" => (with_reducible refine' cmp_ev ?zv1 ?_; (case zv1 => k_extra "m_ev"))
  k_with "m_itc" => (with_reducible (first | (refine' itc_ev2 ?zv1 ?zv2 ?_; (case zv1 => k_extra "m_ev"); (case zv2 => k_extra "m_ev")) | (refine' itc_ei ?zv1 ?_; (case zv1 => k_extra "m_ev")) | (refine' itc_ev ?zv1 ?_; (case zv1 => k_extra "m_ev"))))
  k_with "m_rete" => (with_reducible refine' ret_ev ?zv1 ?_; (case zv1 => k_extra "m_ev"))
  k_with "m_ite" => (first | with_reducible refine ite_tt ?_ | with_reducible refine ite_ff ?_ | (with_reducible refine dec_pos ?c ?_; (case c => omega)) | (with_reducible refine dec_neg ?c ?_; (case c => omega)) | (with_reducible refine ine_pos ?c ?_; (case c => omega)) | (with_reducible refine ine_neg ?c ?_; (case c => omega)) | (with_reducible refine ieq_pos ?c ?_; (case c => omega)) | (with_reducible refine ieq_neg ?c ?_; (case c => omega)) | (with_reducible refine split_dec ?_ ?_ <;> intro _) | (with_reducible refine split_ine ?_ ?_ <;> intro _) | (with_reducible refine split_ieq ?_ ?_ <;> intro _))
  k_with "m_same" => (intro z h2 h3; (try dsimp only at h2); (try dsimp only); (simp only [List.forall_mem_cons, List.not_mem_nil, false_implies, implies_true, and_true, ne_eq] at h2); first | (simp only [kstB, h2, if_false, List.contains_nil, Bool.false_eq_true]; done) | (simp only [kstB, h2, h3, if_false, List.contains_nil, Bool.false_eq_true]; done) | (simp [kstB, h2]; done) | (simp [kstB, h2, h3]; done))
  k_with "m_view" => (first | assumption | exact ViewIn.mono (by assumption) (by k_extra "m_sub"))
  k_with "m_open" => subst hR9
  k_with "m_tab" => (first | assumption | exact TableIn.mono (by assumption) (by k_extra "m_sub"))
  k_with "m_con" => ((with_reducible show Gives _ 348 _ _ _ _); exact syntax_in_ok (by k_extra "m_view") (by k_extra "m_tab") (by assumption) (by omega) (by omega))
  trivial
theorem in_w (k : Kd) : (!(Builtin.Str.occurrences (Str.ofString "w") k.str 0 (Str.ofString "w").length 1).isEmpty) = decide (k = .w) := by cases k <;> decide +kernel
set_option maxHeartbeats 4000000 in
theorem is_of_ok {w : World} {news : Led} {v tb : Addr} {cs : List Int} {p x : Int} {syn : Kd → Addr} {t t2 : Tok} {neg : Bool} (hv : ViewIn news v cs p) (ht : TableIn w news tb syn) (hg : Sgns cs) (h0 : p ≤ x) (h1 : x < p + cs.length) :
    Gives w 678 4 [.ref v, .ref tb, .int x t, .str (Str.ofString "w") t2, .bool neg] news (fun r => r = .bool (decide (kdOf (codeR cs (x - p)) = .w) != neg)) := (by exact qz : Qz _ (by
  obtain ⟨dx, lc, e1, e2, k1, k2, tt, vs, nn9, m1, m2, m3, hI, hlen, hp0, hp1⟩ := id hv
  obtain ⟨td, rd, o, g1, g2, j1, j2, n1, n2, n3, hd9, lo9, hy⟩ := id ht
  have hs9 := hy (kdOf (codeR cs (x - p)))
  obtain ⟨dx9, d1, d2, d3, i1, i2, i3, t1, t3, mv, o1, o2⟩ := id hs9
  k_with "m_val" => exact congrArg (fun z => Value.bool (z != neg)) (in_w _)
  constructor
  intro pF loF meF mgF mbF dp un gd cnF csF aF cdF clF outer A₀ base h₀ LF mF sF QF EF B F X N T hk hd hu hret
  refine wpAny_call ?_
  k_dflt (refine' code_defK ([(Str.ofString "view", .ref v), (Str.ofString "table", .ref tb), (Str.ofString "place", .int x t), (Str.ofString "kinds", .str (Str.ofString "w") t2), (Str.ofString "is_negated", .bool neg)]).reverse ?k1 ?k2 ?k3 ?k4 ?k5 ?kA ?kF ?kK ?k6 ?k7 ?k8 ?k9 ?kB ?_ ?c2 ?c3 ?c4 ?c5; (case kA => exact rfl); (case kF => exact rfl); (case kK => exact hk); (case k1 => exact B); (case k2 => exact F); (case k3 => exact X); (case k4 => exact N); (case k5 => exact T); (case k6 => k_is); (case k7 => k_is); (case k8 => ktr_room); (case k9 => first | exact BindsTo.of_eq rfl | exact binds_K (by k_in) rfl (by k_is) rfl rfl rfl); (case c5 => decide); (case kB => exact locs (by kernel_rfl!)); (case c2 => exact rfl); (case c3 => exact rfl); (case c4 => exact rfl); k_whole; intro g' L' h' FG' F' N' B' X' T'; (try dsimp only [List.reverse, List.reverseAux] at F'); (try dsimp only); (try k_fold); (try (show (let ak : Around := _; wpAny _ ak _ _ _ _)); intro ak))
  k_extra "m_steps"))
set_option maxHeartbeats 4000000 in
theorem skip_forward_ok {w : World} {news : Led} {v tb : Addr} {cs : List Int} {p x : Int} {syn : Kd → Addr} {t t2 t3 : Tok} {neg : Bool} (hv : ViewIn news v cs p) (ht : TableIn w news tb syn) (hg : Sgns cs) (h0 : p ≤ x) (h1 : x ≤ p + cs.length) :
    Gives w 686 5 [.ref v, .ref tb, .int x t, .int (p + cs.length) t2, .str (Str.ofString "w") t3, .bool neg] news (IntRP (p + skF cs neg (x - p).toNat) (skF cs neg (x - p).toNat ≤ cs.length)) := (by exact qz : Qz _ (by
  k_with "m_con" => ((with_reducible show Gives _ 678 _ _ _ _); exact is_of_ok (by k_extra "m_view") (by k_extra "m_tab") (by assumption) (by omega) (by omega))
  k_with "m_while" => (first | (
    (rename Fr _ _ _ _ => lF); (rename News _ _ _ _ => lN)
    refine' ksw_while (fun _ : Int × Tok => news) (fun c => [(Str.ofString "at", .int c.1 c.2)]) (fun _ => True) [] (fun c => A3 (p ≤ c.1) (c.1 ≤ p + cs.length) (skF cs neg (c.1 - p).toNat = skF cs neg (x - p).toNat)) (fun c => (p + cs.length - c.1).toNat) (x, t) lF lN trivial ?kk ⟨h0, h1, rfl⟩ ?_
    (case kk => kst_all)
    clear lF lN
    rintro ⟨y, ty⟩ u h tk - ⟨y0, y1, y2⟩ lF lN
    (try dsimp only at lF)
    (try dsimp only at *)
    (try k_fold))              | fail)
  k_with "m_end" => k_dflt (first | (exact ksw_end (y + 1, _) (by assumption) (by assumption) (fun _ h => h) trivial (by kst_all) (by k_extra "m_same") ⟨by dsimp only; omega, by dsimp only; omega, y2 ▸ (skF_step y0 (by omega) (by assumption)).symm⟩ (by dsimp only; omega)) | fail)
  k_with "m_val" => exact ⟨_, congrArg (fun z => Value.int z _) (y2 ▸ skF_stop y0 y1 (by first | (intro; assumption) | (intro; omega))), skF_le _ _ _ (by omega)⟩
  constructor
  intro pF loF meF mgF mbF dp un gd cnF csF aF cdF clF outer A₀ base h₀ LF mF sF QF EF B F X N T hk hd hu hret
  refine wpAny_call ?_
  k_dflt (refine' code_defK ([(Str.ofString "view", .ref v), (Str.ofString "table", .ref tb), (Str.ofString "at", .int x t), (Str.ofString "limit", .int (p + cs.length) t2), (Str.ofString "kinds", .str (Str.ofString "w") t3), (Str.ofString "is_negated", .bool neg)]).reverse ?k1 ?k2 ?k3 ?k4 ?k5 ?kA ?kF ?kK ?k6 ?k7 ?k8 ?k9 ?kB ?_ ?c2 ?c3 ?c4 ?c5; (case kA => exact rfl); (case kF => exact rfl); (case kK => exact hk); (case k1 => exact B); (case k2 => exact F); (case k3 => exact X); (case k4 => exact N); (case k5 => exact T); (case k6 => k_is); (case k7 => k_is); (case k8 => ktr_room); (case k9 => first | exact BindsTo.of_eq rfl | exact binds_K (by k_in) rfl (by k_is) rfl rfl rfl); (case c5 => decide); (case kB => exact locs (by kernel_rfl!)); (case c2 => exact rfl); (case c3 => exact rfl); (case c4 => exact rfl); k_whole; intro g' L' h' FG' F' N' B' X' T'; (try dsimp only [List.reverse, List.reverseAux] at F'); (try dsimp only); (try k_fold); (try (show (let ak : Around := _; wpAny _ ak _ _ _ _)); intro ak))
  k_extra "m_steps"))
set_option maxHeartbeats 4000000 in
theorem skip_backward_ok {w : World} {news : Led} {v tb : Addr} {cs : List Int} {p x : Int} {syn : Kd → Addr} {t t2 t3 : Tok} {neg : Bool} (hv : ViewIn news v cs p) (ht : TableIn w news tb syn) (hg : Sgns cs) (h0 : p ≤ x) (h1 : x ≤ p + cs.length) :
    Gives w 694 5 [.ref v, .ref tb, .int x t, .int p t2, .str (Str.ofString "w") t3, .bool neg] news (IntRP (p + skB cs neg (x - p).toNat) (skB cs neg (x - p).toNat ≤ cs.length)) := (by exact qz : Qz _ (by
  k_with "m_con" => ((with_reducible show Gives _ 678 _ _ _ _); exact is_of_ok (by k_extra "m_view") (by k_extra "m_tab") (by assumption) (by omega) (by omega))
  k_with "m_while" => (first | (
    (rename Fr _ _ _ _ => lF); (rename News _ _ _ _ => lN)
    refine' ksw_while (fun _ : Int × Tok => news) (fun c => [(Str.ofString "at", .int c.1 c.2)]) (fun _ => True) [] (fun c => A3 (p ≤ c.1) (c.1 ≤ p + cs.length) (skB cs neg (c.1 - p).toNat = skB cs neg (x - p).toNat)) (fun c => (c.1 - p).toNat) (x, t) lF lN trivial ?kk ⟨h0, h1, rfl⟩ ?_
    (case kk => kst_all)
    clear lF lN
    rintro ⟨y, ty⟩ u h tk - ⟨y0, y1, y2⟩ lF lN
    (try dsimp only at lF)
    (try dsimp only at *)
    (try k_fold))              | fail)
  k_with "m_end" => k_dflt (first | (exact ksw_end (y - 1, _) (by assumption) (by assumption) (fun _ h => h) trivial (by kst_all) (by k_extra "m_same") ⟨by dsimp only; omega, by dsimp only; omega, y2 ▸ (skB_step (by omega) y1 (by assumption)).symm⟩ (by dsimp only; omega)) | fail)
  k_with "m_val" => exact ⟨_, congrArg (fun z => Value.int z _) (y2 ▸ skB_stop y0 y1 (by first | (intro; assumption) | (intro; omega))), Nat.le_trans (skB_le _ _ _) (by omega)⟩
  constructor
  intro pF loF meF mgF mbF dp un gd cnF csF aF cdF clF outer A₀ base h₀ LF mF sF QF EF B F X N T hk hd hu hret
  refine wpAny_call ?_
  k_dflt (refine' code_defK ([(Str.ofString "view", .ref v), (Str.ofString "table", .ref tb), (Str.ofString "at", .int x t), (Str.ofString "limit", .int p t2), (Str.ofString "kinds", .str (Str.ofString "w") t3), (Str.ofString "is_negated", .bool neg)]).reverse ?k1 ?k2 ?k3 ?k4 ?k5 ?kA ?kF ?kK ?k6 ?k7 ?k8 ?k9 ?kB ?_ ?c2 ?c3 ?c4 ?c5; (case kA => exact rfl); (case kF => exact rfl); (case kK => exact hk); (case k1 => exact B); (case k2 => exact F); (case k3 => exact X); (case k4 => exact N); (case k5 => exact T); (case k6 => k_is); (case k7 => k_is); (case k8 => ktr_room); (case k9 => first | exact BindsTo.of_eq rfl | exact binds_K (by k_in) rfl (by k_is) rfl rfl rfl); (case c5 => decide); (case kB => exact locs (by kernel_rfl!)); (case c2 => exact rfl); (case c3 => exact rfl); (case c4 => exact rfl); k_whole; intro g' L' h' FG' F' N' B' X' T'; (try dsimp only [List.reverse, List.reverseAux] at F'); (try dsimp only); (try k_fold); (try (show (let ak : Around := _; wpAny _ ak _ _ _ _)); intro ak))
  k_extra "m_steps"))
set_option maxHeartbeats 4000000 in
theorem skip_forward0_ok {w : World} {news : Led} {v tb : Addr} {cs : List Int} {p x : Int} {syn : Kd → Addr} {t t2 t3 : Tok} (hv : ViewIn news v cs p) (ht : TableIn w news tb syn) (hg : Sgns cs) (h0 : p ≤ x) (h1 : x ≤ p + cs.length) :
    Gives w 686 5 [.ref v, .ref tb, .int x t, .int (p + cs.length) t2, .str (Str.ofString "w") t3] news (IntRP (p + skF cs false (x - p).toNat) (skF cs false (x - p).toNat ≤ cs.length)) := (by exact qz : Qz _ (by
  k_with "m_con" => ((with_reducible show Gives _ 678 _ _ _ _); exact is_of_ok (by k_extra "m_view") (by k_extra "m_tab") (by assumption) (by omega) (by omega))
  k_with "m_while" => (first | (
    (rename Fr _ _ _ _ => lF); (rename News _ _ _ _ => lN)
    refine' ksw_while (fun _ : Int × Tok => news) (fun c => [(Str.ofString "at", .int c.1 c.2)]) (fun _ => True) [] (fun c => A3 (p ≤ c.1) (c.1 ≤ p + cs.length) (skF cs false (c.1 - p).toNat = skF cs false (x - p).toNat)) (fun c => (p + cs.length - c.1).toNat) (x, t) lF lN trivial ?kk ⟨h0, h1, rfl⟩ ?_
    (case kk => kst_all)
    clear lF lN
    rintro ⟨y, ty⟩ u h tk - ⟨y0, y1, y2⟩ lF lN
    (try dsimp only at lF)
    (try dsimp only at *)
    (try k_fold))              | fail)
  k_with "m_end" => k_dflt (first | (exact ksw_end (y + 1, _) (by assumption) (by assumption) (fun _ h => h) trivial (by kst_all) (by k_extra "m_same") ⟨by dsimp only; omega, by dsimp only; omega, y2 ▸ (skF_step y0 (by omega) (by assumption)).symm⟩ (by dsimp only; omega)) | fail)
  k_with "m_val" => exact ⟨_, congrArg (fun z => Value.int z _) (y2 ▸ skF_stop y0 y1 (by first | (intro; assumption) | (intro; omega))), skF_le _ _ _ (by omega)⟩
  constructor
  intro pF loF meF mgF mbF dp un gd cnF csF aF cdF clF outer A₀ base h₀ LF mF sF QF EF B F X N T hk hd hu hret
  refine wpAny_call ?_
  k_dflt (refine' code_defK ([(Str.ofString "view", .ref v), (Str.ofString "table", .ref tb), (Str.ofString "at", .int x t), (Str.ofString "limit", .int (p + cs.length) t2), (Str.ofString "kinds", .str (Str.ofString "w") t3), (Str.ofString "is_negated", .bool false)]).reverse ?k1 ?k2 ?k3 ?k4 ?k5 ?kA ?kF ?kK ?k6 ?k7 ?k8 ?k9 ?kB ?_ ?c2 ?c3 ?c4 ?c5; (case kA => exact rfl); (case kF => exact rfl); (case kK => exact hk); (case k1 => exact B); (case k2 => exact F); (case k3 => exact X); (case k4 => exact N); (case k5 => exact T); (case k6 => k_is); (case k7 => k_is); (case k8 => ktr_room); (case k9 => first | exact BindsTo.of_eq rfl | exact binds_K (by k_in) rfl (by k_is) rfl rfl rfl); (case c5 => decide); (case kB => exact locs (by kernel_rfl!)); (case c2 => exact rfl); (case c3 => exact rfl); (case c4 => exact rfl); k_whole; intro g' L' h' FG' F' N' B' X' T'; (try dsimp only [List.reverse, List.reverseAux] at F'); (try dsimp only); (try k_fold); (try (show (let ak : Around := _; wpAny _ ak _ _ _ _)); intro ak))
  k_extra "m_steps"))
set_option maxHeartbeats 4000000 in
theorem skip_backward0_ok {w : World} {news : Led} {v tb : Addr} {cs : List Int} {p x : Int} {syn : Kd → Addr} {t t2 t3 : Tok} (hv : ViewIn news v cs p) (ht : TableIn w news tb syn) (hg : Sgns cs) (h0 : p ≤ x) (h1 : x ≤ p + cs.length) :
    Gives w 694 5 [.ref v, .ref tb, .int x t, .int p t2, .str (Str.ofString "w") t3] news (IntRP (p + skB cs false (x - p).toNat) (skB cs false (x - p).toNat ≤ cs.length)) := (by exact qz : Qz _ (by
  k_with "m_con" => ((with_reducible show Gives _ 678 _ _ _ _); exact is_of_ok (by k_extra "m_view") (by k_extra "m_tab") (by assumption) (by omega) (by omega))
  k_with "m_while" => (first | (
    (rename Fr _ _ _ _ => lF); (rename News _ _ _ _ => lN)
    refine' ksw_while (fun _ : Int × Tok => news) (fun c => [(Str.ofString "at", .int c.1 c.2)]) (fun _ => True) [] (fun c => A3 (p ≤ c.1) (c.1 ≤ p + cs.length) (skB cs false (c.1 - p).toNat = skB cs false (x - p).toNat)) (fun c => (c.1 - p).toNat) (x, t) lF lN trivial ?kk ⟨h0, h1, rfl⟩ ?_
    (case kk => kst_all)
    clear lF lN
    rintro ⟨y, ty⟩ u h tk - ⟨y0, y1, y2⟩ lF lN
    (try dsimp only at lF)
    (try dsimp only at *)
    (try k_fold))              | fail)
  k_with "m_end" => k_dflt (first | (exact ksw_end (y - 1, _) (by assumption) (by assumption) (fun _ h => h) trivial (by kst_all) (by k_extra "m_same") ⟨by dsimp only; omega, by dsimp only; omega, y2 ▸ (skB_step (by omega) y1 (by assumption)).symm⟩ (by dsimp only; omega)) | fail)
  k_with "m_val" => exact ⟨_, congrArg (fun z => Value.int z _) (y2 ▸ skB_stop y0 y1 (by first | (intro; assumption) | (intro; omega))), Nat.le_trans (skB_le _ _ _) (by omega)⟩
  constructor
  intro pF loF meF mgF mbF dp un gd cnF csF aF cdF clF outer A₀ base h₀ LF mF sF QF EF B F X N T hk hd hu hret
  refine wpAny_call ?_
  k_dflt (refine' code_defK ([(Str.ofString "view", .ref v), (Str.ofString "table", .ref tb), (Str.ofString "at", .int x t), (Str.ofString "limit", .int p t2), (Str.ofString "kinds", .str (Str.ofString "w") t3), (Str.ofString "is_negated", .bool false)]).reverse ?k1 ?k2 ?k3 ?k4 ?k5 ?kA ?kF ?kK ?k6 ?k7 ?k8 ?k9 ?kB ?_ ?c2 ?c3 ?c4 ?c5; (case kA => exact rfl); (case kF => exact rfl); (case kK => exact hk); (case k1 => exact B); (case k2 => exact F); (case k3 => exact X); (case k4 => exact N); (case k5 => exact T); (case k6 => k_is); (case k7 => k_is); (case k8 => ktr_room); (case k9 => first | exact BindsTo.of_eq rfl | exact binds_K (by k_in) rfl (by k_is) rfl rfl rfl); (case c5 => decide); (case kB => exact locs (by kernel_rfl!)); (case c2 => exact rfl); (case c3 => exact rfl); (case c4 => exact rfl); k_whole; intro g' L' h' FG' F' N' B' X' T'; (try dsimp only [List.reverse, List.reverseAux] at F'); (try dsimp only); (try k_fold); (try (show (let ak : Around := _; wpAny _ ak _ _ _ _)); intro ak))
  k_extra "m_steps"))
theorem u31 : True := by
  k_with_none
  k_with "m_om" => (with_reducible first | decide | assumption | ((show @LT.lt Nat _ _ _); first | exact rm_a ‹_› rfl | exact rm_b ‹_› rfl | exact rm_c ‹_› | exact rm_d ‹_› | exact tn_a ‹_› | exact tn_b ‹_› | exact tn_c ‹_› | exact tn_d ‹_› | exact rm_e ‹_› rfl | exact tp_d ‹_› | exact tp_e ‹_› ‹_› | exact tp_h ‹_› | exact tp_v ‹_› | exact tr_a ‹_›) | ((show @LE.le Nat _ _ _); first | exact tn_h ‹_› | exact tp_c ‹_› | exact tp_k ‹_› ‹_› | exact tp_l ‹_› ‹_› ‹_› | exact tp_x ‹_› ‹_› | exact Nat.le_trans ‹_› ‹_›) | ((show @LT.lt Int _ _ _); first | exact tn_m ‹_› | exact tn_n ‹_› | exact tp_p ‹_› ‹_› ‹_› ‹_› | exact tp_q ‹_› ‹_› ‹_› | exact Int.lt_of_toNat_lt ‹_› | exact Int.lt_of_lt_of_le ‹_› ‹_› | exact Int.sub_left_lt_of_lt_add ‹_› | exact tr_b ‹_›) | ((show @LE.le Int _ _ _); first | exact tn_i ‹_› | exact tn_j ‹_› | exact tn_k ‹_› | exact tn_l ‹_› | exact tn_o ‹_› | exact tp_i ‹_› ‹_› | exact tp_a ‹_› ‹_› | exact tp_a1 ‹_› ‹_› | exact tp_b ‹_› | exact tp_r ‹_› ‹_› | exact tp_s ‹_› | exact Int.le_of_lt (Int.not_le.mp ‹_›) | exact Int.sub_nonneg_of_le ‹_› | exact Int.sub_nonneg_of_le (tn_i ‹_›) | exact Int.le_add_of_nonneg_right (Int.natCast_nonneg _)) | ((show @Eq Nat _ _); first | exact tn_s ‹_› | exact tn_t ‹_› | exact (tn_s ‹_›).symm | exact tp_g ‹_› | exact tn_s (Int.not_le.mp ‹_›) | exact tp_u ‹_› | exact tp_j) | ((show @Eq Int _ _); first | exact tn_e ‹_› | exact tn_f ‹_› | exact tn_g ‹_› | exact tp_m ‹_› | exact tp_n ‹_› | exact tp_o ‹_› ‹_› | exact tp_w ‹_› ‹_› | exact tp_y) | exact tp_f ‹_› ‹_› | exact tp_f ‹_› | exact tp_f (Int.not_lt.mp ‹_›) | exact tp_t ‹_› ‹_› | exact Nat.ne_of_gt ‹_› | exact Nat.ne_of_lt ‹_› | exact Nat.ne_of_gt (Nat.lt_trans ‹_› ‹_›))
  k_with "m_sd1" => ((case k1 | k2 | k3 | k4 | k5 => assumption))
  k_with "m_sd2" => ((case kK => first | exact rfl | assumption); (case kd => first | (dsimp only [ktrTop, Around.deeper]; omega) | ktr_room); (case ku => first | (dsimp only [ktrTop, Around.deeper]; omega) | ktr_units))
  k_with "m_steps" => (repeat' (first | ((first | (k_unfold) | fail); (try dsimp only)) | (first | (k_extra "m_ret") | fail) | (first | (walk1) | fail) | (dsimp only; (first | (walk1) | fail)) | fail "no step"))
  k_with "m_ret" => ((with_reducible refine' hret _ _ _ _ ?_ ?e2 ?e3); (case e2 => k_asm); (case e3 => k_asm); (try k_extra "m_val"))
  k_with "m_call" => k_dflt ((first | (refine' GivesU.useM ?G ?k1 ?k2 ?k3 ?k4 ?k5 ?kK ?kd ?ku ?_; k_extra "m_sd1"; (case G => k_extra "m_conU"); k_extra "m_sd2"; intro r9 news9 h9 tk9 hR9 F9 N9; (try k_sweep); k_extra "m_openU" <;> ((try dsimp only); (try k_fold))) | fail))
  k_with "m_call" => k_dflt ((first | (refine' Gives.useIP ?G ?k1 ?k2 ?k3 ?k4 ?k5 ?kK ?kd ?ku ?_; (case G => k_extra "m_con"); k_extra "m_sd1"; k_extra "m_sd2"; intro t9 h9 tk9 b9 F9 N9; (try k_sweep); (try k_extra "m_openI"); (try dsimp only); (try k_fold)) | fail))
  k_with "m_call" => k_dflt ((first | (refine' Gives.useI ?G ?k1 ?k2 ?k3 ?k4 ?k5 ?kK ?kd ?ku ?_; (case G => k_extra "m_con"); k_extra "m_sd1"; k_extra "m_sd2"; intro t9 h9 tk9 F9 N9; (try k_sweep); (try k_extra "m_openI"); (try dsimp only); (try k_fold)) | fail))
  k_with "m_ne" => ((with_reducible refine ofs_ne ?_); simp only [ne_eq, String.reduceEq, not_false_eq_true]; done)
  k_with "m_look" => (first | k_dflt (exact rfl) | repeat (first | with_reducible exact look_here | with_reducible exact look_ithere | with_reducible refine Eq.trans (look_next (by k_extra "m_ne")) ?_ | with_reducible refine Eq.trans (look_itnext (by k_extra "m_ne")) ?_ | with_reducible refine Eq.trans (look_off (by k_extra "m_off")) ?_ | with_reducible refine Eq.trans look_nil ?_ | assumption | fail "m_look"))
  k_with "m_all" => ((try dsimp only); repeat (first | with_reducible exact all_nil | (with_reducible refine' all_cons _ _; (· k_extra "m_look")) | fail "m_all"))
  k_with "m_kind" => (first | kernel_rfl! | k_dflt (exact rfl) | repeat (first | with_reducible exact kind_here | with_reducible refine Eq.trans (kind_next (by k_extra "m_ne")) ?_ | fail "m_kind"))
  k_with "m_ev" => (with_reducible refine' ev_name ?k0 ?k1 ?k2 ?k5 ?k3 ?k6; (case k5 => k_extra "m_kind"); (case k0 => first | assumption | k_dflt assumption); (case k1 => assumption); (case k2 => assumption); (case k3 => k_dflt k_is); (case k6 => simp only [ne_eq, String.reduceEq, not_false_eq_true]))
  k_with "m_ev" => (with_reducible refine' ev_ld ?k1 ?k4 ?k2 ?k5; (case k4 => k_extra "m_kind"); (case k1 => first | assumption | k_dflt assumption); (case k2 => k_extra "m_look"); (case k5 => simp only [ne_eq, String.reduceEq, not_false_eq_true]))
  k_with "m_spl" => (with_reducible refine' args_ev ?zv1 ?_; (case zv1 => k_extra "m_ev"))
  k_with "m_spl" => (with_reducible first | (refine' args_ev1 ?zv1 ?_; (case zv1 => k_extra "m_ev")) | (refine' args_ev2 ?zv1 ?zv2 ?_; (case zv1 => k_extra "m_ev"); (case zv2 => k_extra "m_ev")) | (refine' args_ev3 ?zv1 ?zv2 ?zv3 ?_; (case zv1 => k_extra "m_ev"); (case zv2 => k_extra "m_ev"); (case zv3 => k_extra "m_ev")) | (refine' args_ev4 ?zv1 ?zv2 ?zv3 ?zv4 ?_; (case zv1 => k_extra "m_ev"); (case zv2 => k_extra "m_ev"); (case zv3 => k_extra "m_ev"); (case zv4 => k_extra "m_ev")))
  k_with "m_cal" => (with_reducible refine' call_ev ?zv1 ?_; (case zv1 => k_extra "m_ev"))
  k_with "m_cam" => (with_reducible refine' method_ev ?zv1 ?_; (case zv1 => k_extra "m_ev"))
  k_with "m_bin" => (with_reducible (first | (refine' bin_ev2 ?zv1 ?zv2 ?_; (case zv1 => k_extra "m_ev"); (case zv2 => k_extra "m_ev")) | (refine' bin_ei ?zv1 ?_; (case zv1 => k_extra "m_ev")) | (refine' bin_ev ?zv1 ?_; (case zv1 => k_extra "m_ev"))))
  k_with "m_itc" => (with_reducible (first | (refine' itc_ev2 ?zv1 ?zv2 ?_; (case zv1 => k_extra "m_ev"); (case zv2 => k_extra "m_ev")) | (refine' itc_ei ?zv1 ?_; (case zv1 => k_extra "m_ev")) | (refine' itc_ev ?zv1 ?_; (case zv1 => k_extra "m_ev"))))
  k_with "m_ite" => (first | with_reducible refine ite_tt ?_ | with_reducible refine ite_ff ?_ | (with_reducible refine dec_pos ?c ?_; (case c => omega)) | (with_reducible refine dec_neg ?c ?_; (case c => omega)) | (with_reducible refine ine_pos ?c ?_; (case c => omega)) | (with_reducible refine ine_neg ?c ?_; (case c => omega)) | (with_reducible refine ieq_pos ?c ?_; (case c => omega)) | (with_reducible refine ieq_neg ?c ?_; (case c => omega)) | (with_reducible refine split_dec ?_ ?_ <;> intro _) | (with_reducible refine split_ine ?_ ?_ <;> intro _) | (with_reducible refine split_ieq ?_ ?_ <;> intro _))
  k_with "m_sub" => (intro q9 h9; repeat' (first | exact h9 | refine List.mem_append_left _ ?_ | refine List.mem_cons_of_mem _ ?_))
  k_with "m_view" => (first | assumption | exact ViewIn.mono (by assumption) (by k_extra "m_sub"))
  k_with "m_con" => ((with_reducible show Gives _ 43 _ _ _ _); exact begin_ok (by k_extra "m_view"))
  k_with "m_con" => ((with_reducible show Gives _ 50 _ _ _ _); exact end_ok (by k_extra "m_view"))
  k_with "m_tab" => (first | assumption | exact TableIn.mono (by assumption) (by k_extra "m_sub"))
  k_with "m_con" => ((with_reducible show Gives _ 686 _ _ _ _); exact skip_forward_ok (by k_extra "m_view") (by k_extra "m_tab") (by assumption) (by omega) (by omega))
  k_with "m_con" => ((with_reducible show Gives _ 694 _ _ _ _); exact skip_backward_ok (by k_extra "m_view") (by k_extra "m_tab") (by assumption) (by omega) (by omega))
  k_with "m_con" => ((with_reducible show Gives _ 686 _ _ _ _); exact skip_forward0_ok (by k_extra "m_view") (by k_extra "m_tab") (by assumption) (by omega) (by omega))
  k_with "m_con" => ((with_reducible show Gives _ 694 _ _ _ _); exact skip_backward0_ok (by k_extra "m_view") (by k_extra "m_tab") (by assumption) (by omega) (by omega))
  trivial
inductive Tup2 (news : Led) (v1 v2 : Value → Prop) (r : Value) (news' : Led) : Prop where
  | mk  (a : Addr) (x y : Value) (q1 : v1 x) (q2 : v2 y) (q3 : news' = (a, tupO [x, y]) :: news) (q4 : (∀ q ∈ news, q.1 < a)) (q5 : r = .ref a)
theorem tup2_fwd {news : Led} {cs : List Int} {i j : Nat} {c p v : Int} {b : Bool} {D : Addr} {t : Tok} (hl : ∀ q ∈ news, q.1 < D) (hw : fwdW cs i c = (j, b)) (hv : v = p + (j : Int)) :
    Tup2 news (IntR (p + (fwdW cs i c).1)) (fun z => z = .bool (fwdW cs i c).2) (.ref D) ((D, tupO [.int v t, .bool b]) :: news) := by
  rw [hw]
  exact ⟨D, _, _, ⟨t, by rw [hv]⟩, rfl, rfl, hl, rfl⟩
set_option maxHeartbeats 4000000 in
theorem forward_by_ok {w : World} {news : Led} {v tb : Addr} {cs : List Int} {p x n : Int} {syn : Kd → Addr} {t t2 t3 : Tok} (hv : ViewIn news v cs p) (ht : TableIn w news tb syn) (hg : Sgns cs) (h0 : p ≤ x) (h1 : x ≤ p + cs.length) :
    GivesU w 701 6 [.ref v, .ref tb, .int x t, .int n t2, .str (Str.ofString "w") t3] news (Tup2 news (IntR (p + (fwdW cs (x - p).toNat n).1)) (fun z => z = .bool (fwdW cs (x - p).toNat n).2)) := (by exact qz : Qz _ (by
  obtain ⟨dx, lc, e1, e2, k1, k2, tt, vs, nn9, m1, m2, m3, hI, hlen, hp0, hp1⟩ := id hv
  k_with "m_while" => (first | (
    (rename Fr _ _ _ _ => lF); (rename News _ _ _ _ => lN)
    refine' w_while (fun _ : Int × Tok × Int × Tok => news) (fun c => [(Str.ofString "at", .int c.1 c.2.1), (Str.ofString "count", .int c.2.2.1 c.2.2.2), (Str.ofString "view", .ref v), (Str.ofString "table", .ref tb), (Str.ofString "kinds", .str (Str.ofString "w") t3)]) (fun c => A3 (p ≤ c.1) (c.1 ≤ p + cs.length) (fwdW cs (c.1 - p).toNat c.2.2.1 = fwdW cs (x - p).toNat n)) (fun c => c.2.2.1.toNat) (x, t, n, t2) lF lN ?kk ⟨h0, h1, rfl⟩ ?_
    (case kk => k_extra "m_all")
    clear lF lN
    rintro ⟨y, ty, c, tc⟩ u h tk ⟨y0, y1, y2⟩ lF lN
    (try dsimp only at lF)
    (try dsimp only at lN)
    (try dsimp only at y0)
    (try dsimp only at y1)
    (try dsimp only at y2)
    (try k_extra "m_open8")
    (try k_fold))              | fail)
  k_with "m_while" => (first | (
    (rename Fr _ _ _ _ => lF); (rename News _ _ _ _ => lN)
    refine' w_while (fun _ : Int × Tok × Int × Tok => news) (fun c => [(Str.ofString "at", .int c.1 c.2.1), (Str.ofString "count", .int c.2.2.1 c.2.2.2), (Str.ofString "view", .ref v), (Str.ofString "table", .ref tb), (Str.ofString "kinds", .str (Str.ofString "w") t3)]) (fun c => A4 (p ≤ c.1) (c.1 ≤ p + cs.length) (fwdW cs (c.1 - p).toNat c.2.2.1 = fwdW cs (x - p).toNat n) (c.2.2.1 ≤ 0)) (fun c => (-c.2.2.1).toNat) (y, ty, c, tc) lF lN ?kk ⟨y0, y1, y2, by dsimp only; omega⟩ ?_
    (case kk => k_extra "m_all")
    clear lF lN
    rintro ⟨z, tz, d, td⟩ u h tk ⟨z0, z1, z2, z3⟩ lF lN
    (try dsimp only at lF)
    (try dsimp only at lN)
    (try dsimp only at z0)
    (try dsimp only at z1)
    (try dsimp only at z2)
    (try dsimp only at z3)
    (try k_extra "m_open8")
    (try k_fold))              | fail)
  k_with "m_wend" => k_dflt (first | (refine' wEnd (_, _, c - 1, _) ?k1 ?k2 ?k3 ?k4 ?k5 ?k6; (case k1 => assumption); (case k2 => assumption); (case k4 => (first | (k_extra "m_all") | fail)); (case k3 => (first | (k_extra "m_sub") | fail)); (case k5 => (first | (exact ⟨by dsimp only; omega, by dsimp only; have := skF_le cs false (skF cs true (y - p).toNat) (by omega); omega, by dsimp only; rw [rel_nat, rel_nat]; exact (fwdW_up (by assumption) (by omega)).symm.trans y2⟩) | fail)); (case k6 => (first | (exact (by dsimp only; omega)) | fail))) | fail)
  k_with "m_wend" => k_dflt (first | (refine' wEnd (_, _, d + 1, _) ?k1 ?k2 ?k3 ?k4 ?k5 ?k6; (case k1 => assumption); (case k2 => assumption); (case k4 => (first | (k_extra "m_all") | fail)); (case k3 => (first | (k_extra "m_sub") | fail)); (case k5 => (first | (exact ⟨by dsimp only; omega, by dsimp only; have := skB_le cs false (skB cs true (z - p).toNat); have := skB_le cs true (z - p).toNat; omega, by dsimp only; rw [rel_nat, rel_nat]; exact (fwdW_down (by assumption) (by omega)).symm.trans z2, by dsimp only; omega⟩) | fail)); (case k6 => (first | (exact (by dsimp only; omega)) | fail))) | fail)
  k_with "m_val" => exact tup2_fwd (by assumption) (y2.symm.trans (fwdW_up_out (by assumption) (by omega))) (by omega)
  k_with "m_val" => exact tup2_fwd (by assumption) (z2.symm.trans (fwdW_down_out (by assumption) (by omega))) (by omega)
  k_with "m_val" => exact tup2_fwd (by assumption) (z2.symm.trans (fwdW_end (by omega))) (by omega)
  constructor
  intro pF loF meF mgF mbF dp un gd cnF csF aF cdF clF outer A₀ base h₀ LF mF sF QF EF B F X N T hk hd hu hret
  refine wpAny_call ?_
  k_dflt (refine' code_defK ([(Str.ofString "view", .ref v), (Str.ofString "table", .ref tb), (Str.ofString "at", .int x t), (Str.ofString "count", .int n t2), (Str.ofString "kinds", .str (Str.ofString "w") t3)]).reverse ?k1 ?k2 ?k3 ?k4 ?k5 ?kA ?kF ?kK ?k6 ?k7 ?k8 ?k9 ?kB ?_ ?c2 ?c3 ?c4 ?c5; (case kA => exact rfl); (case kF => exact rfl); (case kK => exact hk); (case k1 => exact B); (case k2 => exact F); (case k3 => exact X); (case k4 => exact N); (case k5 => exact T); (case k6 => k_is); (case k7 => k_is); (case k8 => ktr_room); (case k9 => first | exact BindsTo.of_eq rfl | exact binds_K (by k_in) rfl (by k_is) rfl rfl rfl); (case c5 => decide); (case kB => exact locs (by kernel_rfl!)); (case c2 => exact rfl); (case c3 => exact rfl); (case c4 => exact rfl); k_whole; intro g' L' h' FG' F' N' B' X' T'; (try dsimp only [List.reverse, List.reverseAux] at F'); (try dsimp only); (try k_fold); (try (show (let ak : Around := _; wpAny _ ak _ _ _ _)); intro ak))
  k_extra "m_steps"))
set_option maxHeartbeats 4000000 in
theorem forward_word_ok {w : World} {news : Led} {v tb : Addr} {cs : List Int} {p x n : Int} {syn : Kd → Addr} {t t2 : Tok} (hv : ViewIn news v cs p) (ht : TableIn w news tb syn) (hg : Sgns cs) (h0 : p ≤ x) (h1 : x ≤ p + cs.length) :
    GivesU w 708 7 [.ref v, .ref tb, .int x t, .int n t2] news (Tup2 news (IntR (p + (fwdW cs (x - p).toNat n).1)) (fun z => z = .bool (fwdW cs (x - p).toNat n).2)) := (by exact qz : Qz _ (by
  k_with "m_conU" => ((with_reducible show GivesU _ 701 _ _ _ _); exact forward_by_ok (by assumption) (by assumption) (by assumption) (by omega) (by omega))
  k_with "m_openU" => (rcases hR9 with ⟨a9, x9, y9, ⟨t9, rfl⟩, rfl, rfl, l9, rfl⟩)
  k_with "m_val" => exact ⟨_, _, _, ⟨_, rfl⟩, rfl, rfl, by assumption, rfl⟩
  constructor
  intro pF loF meF mgF mbF dp un gd cnF csF aF cdF clF outer A₀ base h₀ LF mF sF QF EF B F X N T hk hd hu hret
  refine wpAny_call ?_
  k_dflt (refine' code_defK ([(Str.ofString "view", .ref v), (Str.ofString "table", .ref tb), (Str.ofString "at", .int x t), (Str.ofString "count", .int n t2)]).reverse ?k1 ?k2 ?k3 ?k4 ?k5 ?kA ?kF ?kK ?k6 ?k7 ?k8 ?k9 ?kB ?_ ?c2 ?c3 ?c4 ?c5; (case kA => exact rfl); (case kF => exact rfl); (case kK => exact hk); (case k1 => exact B); (case k2 => exact F); (case k3 => exact X); (case k4 => exact N); (case k5 => exact T); (case k6 => k_is); (case k7 => k_is); (case k8 => ktr_room); (case k9 => first | exact BindsTo.of_eq rfl | exact binds_K (by k_in) rfl (by k_is) rfl rfl rfl); (case c5 => decide); (case kB => exact locs (by kernel_rfl!)); (case c2 => exact rfl); (case c3 => exact rfl); (case c4 => exact rfl); k_whole; intro g' L' h' FG' F' N' B' X' T'; (try dsimp only [List.reverse, List.reverseAux] at F'); (try dsimp only); (try k_fold); (try (show (let ak : Around := _; wpAny _ ak _ _ _ _)); intro ak))
  k_extra "m_steps"))
theorem u32 : True := by
  k_with_none
  k_with "m_om" => (with_reducible first | decide | assumption | ((show @LT.lt Nat _ _ _); first | exact rm_a ‹_› rfl | exact rm_b ‹_› rfl | exact rm_c ‹_› | exact rm_d ‹_› | exact tn_a ‹_› | exact tn_b ‹_› | exact tn_c ‹_› | exact tn_d ‹_› | exact rm_e ‹_› rfl | exact tp_d ‹_› | exact tp_e ‹_› ‹_› | exact tp_h ‹_› | exact tp_v ‹_› | exact tr_a ‹_›) | ((show @LE.le Nat _ _ _); first | exact tn_h ‹_› | exact tp_c ‹_› | exact tp_k ‹_› ‹_› | exact tp_l ‹_› ‹_› ‹_› | exact tp_x ‹_› ‹_› | exact Nat.le_trans ‹_› ‹_›) | ((show @LT.lt Int _ _ _); first | exact tn_m ‹_› | exact tn_n ‹_› | exact tp_p ‹_› ‹_› ‹_› ‹_› | exact tp_q ‹_› ‹_› ‹_› | exact Int.lt_of_toNat_lt ‹_› | exact Int.lt_of_lt_of_le ‹_› ‹_› | exact Int.sub_left_lt_of_lt_add ‹_› | exact tr_b ‹_›) | ((show @LE.le Int _ _ _); first | exact tn_i ‹_› | exact tn_j ‹_› | exact tn_k ‹_› | exact tn_l ‹_› | exact tn_o ‹_› | exact tp_i ‹_› ‹_› | exact tp_a ‹_› ‹_› | exact tp_a1 ‹_› ‹_› | exact tp_b ‹_› | exact tp_r ‹_› ‹_› | exact tp_s ‹_› | exact Int.le_of_lt (Int.not_le.mp ‹_›) | exact Int.sub_nonneg_of_le ‹_› | exact Int.sub_nonneg_of_le (tn_i ‹_›) | exact Int.le_add_of_nonneg_right (Int.natCast_nonneg _)) | ((show @Eq Nat _ _); first | exact tn_s ‹_› | exact tn_t ‹_› | exact (tn_s ‹_›).symm | exact tp_g ‹_› | exact tn_s (Int.not_le.mp ‹_›) | exact tp_u ‹_› | exact tp_j) | ((show @Eq Int _ _); first | exact tn_e ‹_› | exact tn_f ‹_› | exact tn_g ‹_› | exact tp_m ‹_› | exact tp_n ‹_› | exact tp_o ‹_› ‹_› | exact tp_w ‹_› ‹_› | exact tp_y) | exact tp_f ‹_› ‹_› | exact tp_f ‹_› | exact tp_f (Int.not_lt.mp ‹_›) | exact tp_t ‹_› ‹_› | exact Nat.ne_of_gt ‹_› | exact Nat.ne_of_lt ‹_› | exact Nat.ne_of_gt (Nat.lt_trans ‹_› ‹_›))
  k_with "m_sd1" => ((case k1 | k2 | k3 | k4 | k5 => assumption))
  k_with "m_sd2" => ((case kK => first | exact rfl | assumption); (case kd => first | (dsimp only [ktrTop, Around.deeper]; omega) | ktr_room); (case ku => first | (dsimp only [ktrTop, Around.deeper]; omega) | ktr_units))
  k_with "m_steps" => (repeat' (first | ((first | (k_unfold) | fail); (try dsimp only)) | (first | (k_extra "m_ret") | fail) | (first | (walk1) | fail) | (dsimp only; (first | (walk1) | fail)) | fail "no step"))
  k_with "m_ret" => ((with_reducible refine' hret _ _ _ _ ?_ ?e2 ?e3); (case e2 => k_asm); (case e3 => k_asm); (try k_extra "m_val"))
  k_with "m_call" => k_dflt ((first | (refine' Gives.useI ?G ?k1 ?k2 ?k3 ?k4 ?k5 ?kK ?kd ?ku ?_; (case G => k_extra "m_con"); k_extra "m_sd1"; k_extra "m_sd2"; intro t9 h9 tk9 F9 N9; (try k_sweep); (try k_extra "m_openI"); (try dsimp only); (try k_fold)) | fail))
  k_with "m_ne" => ((with_reducible refine ofs_ne ?_); simp only [ne_eq, String.reduceEq, not_false_eq_true]; done)
  k_with "m_look" => (first | k_dflt (exact rfl) | repeat (first | with_reducible exact look_here | with_reducible exact look_ithere | with_reducible refine Eq.trans (look_next (by k_extra "m_ne")) ?_ | with_reducible refine Eq.trans (look_itnext (by k_extra "m_ne")) ?_ | with_reducible refine Eq.trans (look_off (by k_extra "m_off")) ?_ | with_reducible refine Eq.trans look_nil ?_ | assumption | fail "m_look"))
  k_with "m_all" => ((try dsimp only); repeat (first | with_reducible exact all_nil | (with_reducible refine' all_cons _ _; (· k_extra "m_look")) | fail "m_all"))
  k_with "m_kind" => (first | kernel_rfl! | k_dflt (exact rfl) | repeat (first | with_reducible exact kind_here | with_reducible refine Eq.trans (kind_next (by k_extra "m_ne")) ?_ | fail "m_kind"))
  k_with "m_name" => (first | (with_reducible refine' ldK ?k1 ?k4 ?k2 ?k5 ?_; (case k4 => k_extra "m_kind"); (case k1 => first | assumption | k_dflt assumption); (case k2 => k_extra "m_look"); (case k5 => simp only [ne_eq, String.reduceEq, not_false_eq_true])) | fail)
  k_with "m_ev" => (with_reducible refine' ev_name ?k0 ?k1 ?k2 ?k5 ?k3 ?k6; (case k5 => k_extra "m_kind"); (case k0 => first | assumption | k_dflt assumption); (case k1 => assumption); (case k2 => assumption); (case k3 => k_dflt k_is); (case k6 => simp only [ne_eq, String.reduceEq, not_false_eq_true]))
  k_with "m_ev" => (with_reducible refine' ev_ld ?k1 ?k4 ?k2 ?k5; (case k4 => k_extra "m_kind"); (case k1 => first | assumption | k_dflt assumption); (case k2 => k_extra "m_look"); (case k5 => simp only [ne_eq, String.reduceEq, not_false_eq_true]))
  k_with "m_spl" => (with_reducible refine' args_ev ?zv1 ?_; (case zv1 => k_extra "m_ev"))
  k_with "m_spl" => (with_reducible first | (refine' args_ev1 ?zv1 ?_; (case zv1 => k_extra "m_ev")) | (refine' args_ev2 ?zv1 ?zv2 ?_; (case zv1 => k_extra "m_ev"); (case zv2 => k_extra "m_ev")) | (refine' args_ev3 ?zv1 ?zv2 ?zv3 ?_; (case zv1 => k_extra "m_ev"); (case zv2 => k_extra "m_ev"); (case zv3 => k_extra "m_ev")) | (refine' args_ev4 ?zv1 ?zv2 ?zv3 ?zv4 ?_; (case zv1 => k_extra "m_ev"); (case zv2 => k_extra "m_ev"); (case zv3 => k_extra "m_ev"); (case zv4 => k_extra "m_ev")))
  k_with "m_cal" => (with_reducible refine' call_ev ?zv1 ?_; (case zv1 => k_extra "m_ev"))
  k_with "m_cam" => (with_reducible refine' method_ev ?zv1 ?_; (case zv1 => k_extra "m_ev"))
  k_with "m_bin" => (with_reducible (first | (refine' bin_ev2 ?zv1 ?zv2 ?_; (case zv1 => k_extra "m_ev"); (case zv2 => k_extra "m_ev")) | (refine' bin_ei ?zv1 ?_; (case zv1 => k_extra "m_ev")) | (refine' bin_ev ?zv1 ?_; (case zv1 => k_extra "m_ev"))))
  k_with "m_cmp" => (with_reducible refine' cmp_ev ?zv1 ?_; (case zv1 => k_extra "m_ev"))
  k_with "m_itc" => (with_reducible (first | (refine' itc_ev2 ?zv1 ?zv2 ?_; (case zv1 => k_extra "m_ev"); (case zv2 => k_extra "m_ev")) | (refine' itc_ei ?zv1 ?_; (case zv1 => k_extra "m_ev")) | (refine' itc_ev ?zv1 ?_; (case zv1 => k_extra "m_ev"))))
  k_with "m_ite" => (first | with_reducible refine ite_tt ?_ | with_reducible refine ite_ff ?_ | (with_reducible refine dec_pos ?c ?_; (case c => omega)) | (with_reducible refine dec_neg ?c ?_; (case c => omega)) | (with_reducible refine ine_pos ?c ?_; (case c => omega)) | (with_reducible refine ine_neg ?c ?_; (case c => omega)) | (with_reducible refine ieq_pos ?c ?_; (case c => omega)) | (with_reducible refine ieq_neg ?c ?_; (case c => omega)) | (with_reducible refine split_dec ?_ ?_ <;> intro _) | (with_reducible refine split_ine ?_ ?_ <;> intro _) | (with_reducible refine split_ieq ?_ ?_ <;> intro _))
  k_with "m_sub" => (intro q9 h9; repeat' (first | exact h9 | refine List.mem_append_left _ ?_ | refine List.mem_cons_of_mem _ ?_))
  k_with "m_view" => (first | assumption | exact ViewIn.mono (by assumption) (by k_extra "m_sub"))
  k_with "m_con" => ((with_reducible show Gives _ 43 _ _ _ _); exact begin_ok (by k_extra "m_view"))
  k_with "m_con" => ((with_reducible show Gives _ 50 _ _ _ _); exact end_ok (by k_extra "m_view"))
  k_with "m_con" => ((with_reducible show Gives _ 77 _ _ _ _); exact line_start_ok (by k_extra "m_view") (by omega) (by omega))
  k_with "m_con" => ((with_reducible show Gives _ 91 _ _ _ _); exact next_start_ok (by k_extra "m_view") (by omega) (by omega))
  trivial
theorem tup2_lines {news : Led} {r : Nat × Int} {p v u : Int} {D : Addr} {t t' : Tok} (hl : ∀ q ∈ news, q.1 < D) (hv : v = p + (r.1 : Int)) (hu : u = r.2) :
    Tup2 news (IntR (p + (r.1 : Int))) (IntR r.2) (.ref D) ((D, tupO [.int v t, .int u t']) :: news) :=
  ⟨D, _, _, ⟨t, by rw [hv]⟩, ⟨t', by rw [hu]⟩, rfl, hl, rfl⟩
set_option maxHeartbeats 4000000 in
theorem lines_target_ok {w : World} {news : Led} {v : Addr} {cs : List Int} {p x n : Int} {t t2 : Tok} (hv : ViewIn news v cs p) (h0 : p ≤ x) (h1 : x ≤ p + cs.length) :
    GivesU w 98 4 [.ref v, .int x t, .int n t2] news (Tup2 news (IntR (p + (linesT cs (x - p).toNat n).1)) (IntR (linesT cs (x - p).toNat n).2)) := (by exact qz : Qz _ (by
  obtain ⟨dx, lc, e1, e2, k1, k2, tt, vs, nn9, m1, m2, m3, hI, hlen, hp0, hp1⟩ := id hv
  by_cases hn : n ≤ 0
  · rw [linesT_up hn]
    k_with "m_while" => (first | (
      (rename Fr _ _ _ _ => lF); (rename News _ _ _ _ => lN)
      refine' w_while (fun _ : Int × Tok × Int × Tok => news) (fun c => [(Str.ofString "at", .int c.1 c.2.1), (Str.ofString "many", .int c.2.2.1 c.2.2.2), (Str.ofString "view", .ref v)]) (fun c => A3 (p ≤ c.1) (c.1 ≤ p + cs.length) (upT cs (c.1 - p).toNat c.2.2.1 = upT cs (lineS cs (x - p).toNat) n)) (fun c => (- c.2.2.1).toNat) (p + lineS cs (x - p).toNat, _, n, t2) lF lN ?kk ⟨by dsimp only; omega, by dsimp only; have := lineS_le cs (x - p).toNat; omega, by dsimp only; rw [rel_nat]⟩ ?_
      (case kk => k_extra "m_all")
      clear lF lN
      rintro ⟨y, ty, m, tm⟩ u h tk ⟨y0, y1, y2⟩ lF lN
      (try dsimp only at lF)
      (try dsimp only at lN)
      (try dsimp only at y0)
      (try dsimp only at y1)
      (try dsimp only at y2)
      (try k_extra "m_open8")
      (try k_fold))              | fail)
    k_with "m_wend" => k_dflt (first | (refine' wEnd (_, _, m + 1, _) ?k1 ?k2 ?k3 ?k4 ?k5 ?k6; (case k1 => assumption); (case k2 => assumption); (case k4 => (first | (k_extra "m_all") | fail)); (case k3 => (first | (k_extra "m_sub") | fail)); (case k5 => (first | (exact ⟨by dsimp only; omega, by dsimp only; have := lineS_le cs (y - 1 - p).toNat; omega, by dsimp only; rw [rel_nat, rel_natP (by assumption)]; exact (upT_step (by assumption) (by omega)).symm.trans y2⟩) | fail)); (case k6 => (first | (exact (by dsimp only; omega)) | fail))) | fail)
    k_with "m_val" => exact tup2_lines (by assumption) (by rw [← y2, upT_end (by omega)]; dsimp only; omega) (by rw [← y2, upT_end (by omega)])
    constructor
    intro pF loF meF mgF mbF dp un gd cnF csF aF cdF clF outer A₀ base h₀ LF mF sF QF EF B F X N T hk hd hu hret
    refine wpAny_call ?_
    k_dflt (refine' code_defK ([(Str.ofString "view", .ref v), (Str.ofString "place", .int x t), (Str.ofString "many", .int n t2)]).reverse ?k1 ?k2 ?k3 ?k4 ?k5 ?kA ?kF ?kK ?k6 ?k7 ?k8 ?k9 ?kB ?_ ?c2 ?c3 ?c4 ?c5; (case kA => exact rfl); (case kF => exact rfl); (case kK => exact hk); (case k1 => exact B); (case k2 => exact F); (case k3 => exact X); (case k4 => exact N); (case k5 => exact T); (case k6 => k_is); (case k7 => k_is); (case k8 => ktr_room); (case k9 => first | exact BindsTo.of_eq rfl | exact binds_K (by k_in) rfl (by k_is) rfl rfl rfl); (case c5 => decide); (case kB => exact locs (by kernel_rfl!)); (case c2 => exact rfl); (case c3 => exact rfl); (case c4 => exact rfl); k_whole; intro g' L' h' FG' F' N' B' X' T'; (try dsimp only [List.reverse, List.reverseAux] at F'); (try dsimp only); (try k_fold); (try (show (let ak : Around := _; wpAny _ ak _ _ _ _)); intro ak))
    k_extra "m_steps"
  · rw [linesT_down hn]
    k_with "m_while" => (first | (
      (rename Fr _ _ _ _ => lF); (rename News _ _ _ _ => lN)
      refine' w_while (fun _ : Int × Tok × Int × Tok => news) (fun c => [(Str.ofString "at", .int c.1 c.2.1), (Str.ofString "many", .int c.2.2.1 c.2.2.2), (Str.ofString "view", .ref v)]) (fun c => A3 (p ≤ c.1) (c.1 ≤ p + cs.length) (downT cs (c.1 - p).toNat c.2.2.1 = downT cs (x - p).toNat n)) (fun c => (c.2.2.1).toNat) (x, t, n, t2) lF lN ?kk ⟨h0, h1, rfl⟩ ?_
      (case kk => k_extra "m_all")
      clear lF lN
      rintro ⟨y, ty, m, tm⟩ u h tk ⟨y0, y1, y2⟩ lF lN
      (try dsimp only at lF)
      (try dsimp only at lN)
      (try dsimp only at y0)
      (try dsimp only at y1)
      (try dsimp only at y2)
      (try k_extra "m_open8")
      (try k_fold))              | fail)
    have hE : ∀ y : Int, lineE cs (y - p).toNat < cs.length ∨ ¬ lineE cs (y - p).toNat < cs.length := fun _ => Decidable.em _
    k_with "m_openI" => (rcases hE y with hE9 | hE9; (rw [if_pos hE9]); rotate_left; (rw [if_neg hE9]); rotate_left)
    k_with "m_wend" => k_dflt (first | (refine' wEnd (_, _, m - 1, _) ?k1 ?k2 ?k3 ?k4 ?k5 ?k6; (case k1 => assumption); (case k2 => assumption); (case k4 => (first | (k_extra "m_all") | fail)); (case k3 => (first | (k_extra "m_sub") | fail)); (case k5 => (first | (exact ⟨by dsimp only; omega, by dsimp only; have := lineE_le cs (y - p).toNat (by omega); omega, by dsimp only; rw [rel_nat1]; exact (downT_step (by assumption) hE9).symm.trans y2⟩) | fail)); (case k6 => (first | (exact (by dsimp only; omega)) | fail))) | fail)
    k_with "m_val" => exact tup2_lines (by assumption) (by rw [← y2, downT_out (by assumption) hE9]) (by rw [← y2, downT_out (by assumption) hE9]; exact last_if y0)
    k_with "m_val" => exact tup2_lines (by assumption) (by rw [← y2, downT_end (by assumption)]; dsimp only; omega) (by rw [← y2, downT_end (by assumption)])
    constructor
    intro pF loF meF mgF mbF dp un gd cnF csF aF cdF clF outer A₀ base h₀ LF mF sF QF EF B F X N T hk hd hu hret
    refine wpAny_call ?_
    k_dflt (refine' code_defK ([(Str.ofString "view", .ref v), (Str.ofString "place", .int x t), (Str.ofString "many", .int n t2)]).reverse ?k1 ?k2 ?k3 ?k4 ?k5 ?kA ?kF ?kK ?k6 ?k7 ?k8 ?k9 ?kB ?_ ?c2 ?c3 ?c4 ?c5; (case kA => exact rfl); (case kF => exact rfl); (case kK => exact hk); (case k1 => exact B); (case k2 => exact F); (case k3 => exact X); (case k4 => exact N); (case k5 => exact T); (case k6 => k_is); (case k7 => k_is); (case k8 => ktr_room); (case k9 => first | exact BindsTo.of_eq rfl | exact binds_K (by k_in) rfl (by k_is) rfl rfl rfl); (case c5 => decide); (case kB => exact locs (by kernel_rfl!)); (case c2 => exact rfl); (case c3 => exact rfl); (case c4 => exact rfl); k_whole; intro g' L' h' FG' F' N' B' X' T'; (try dsimp only [List.reverse, List.reverseAux] at F'); (try dsimp only); (try k_fold); (try (show (let ak : Around := _; wpAny _ ak _ _ _ _)); intro ak))
    k_extra "m_steps"))
theorem u40 : True := by
  k_with_none
  k_with "m_om" => (with_reducible first | decide | assumption | ((show @LT.lt Nat _ _ _); first | exact rm_a ‹_› rfl | exact rm_b ‹_› rfl | exact rm_c ‹_› | exact rm_d ‹_› | exact tn_a ‹_› | exact tn_b ‹_› | exact tn_c ‹_› | exact tn_d ‹_› | exact rm_e ‹_› rfl | exact tp_d ‹_› | exact tp_e ‹_› ‹_› | exact tp_h ‹_› | exact tp_v ‹_› | exact tr_a ‹_›) | ((show @LE.le Nat _ _ _); first | exact tn_h ‹_› | exact tp_c ‹_› | exact tp_k ‹_› ‹_› | exact tp_l ‹_› ‹_› ‹_› | exact tp_x ‹_› ‹_› | exact Nat.le_trans ‹_› ‹_›) | ((show @LT.lt Int _ _ _); first | exact tn_m ‹_› | exact tn_n ‹_› | exact tp_p ‹_› ‹_› ‹_› ‹_› | exact tp_q ‹_› ‹_› ‹_› | exact Int.lt_of_toNat_lt ‹_› | exact Int.lt_of_lt_of_le ‹_› ‹_› | exact Int.sub_left_lt_of_lt_add ‹_› | exact tr_b ‹_›) | ((show @LE.le Int _ _ _); first | exact tn_i ‹_› | exact tn_j ‹_› | exact tn_k ‹_› | exact tn_l ‹_› | exact tn_o ‹_› | exact tp_i ‹_› ‹_› | exact tp_a ‹_› ‹_› | exact tp_a1 ‹_› ‹_› | exact tp_b ‹_› | exact tp_r ‹_› ‹_› | exact tp_s ‹_› | exact Int.le_of_lt (Int.not_le.mp ‹_›) | exact Int.sub_nonneg_of_le ‹_› | exact Int.sub_nonneg_of_le (tn_i ‹_›) | exact Int.le_add_of_nonneg_right (Int.natCast_nonneg _)) | ((show @Eq Nat _ _); first | exact tn_s ‹_› | exact tn_t ‹_› | exact (tn_s ‹_›).symm | exact tp_g ‹_› | exact tn_s (Int.not_le.mp ‹_›) | exact tp_u ‹_› | exact tp_j) | ((show @Eq Int _ _); first | exact tn_e ‹_› | exact tn_f ‹_› | exact tn_g ‹_› | exact tp_m ‹_› | exact tp_n ‹_› | exact tp_o ‹_› ‹_› | exact tp_w ‹_› ‹_› | exact tp_y) | exact tp_f ‹_› ‹_› | exact tp_f ‹_› | exact tp_f (Int.not_lt.mp ‹_›) | exact tp_t ‹_› ‹_› | exact Nat.ne_of_gt ‹_› | exact Nat.ne_of_lt ‹_› | exact Nat.ne_of_gt (Nat.lt_trans ‹_› ‹_›))
  k_with "m_steps" => (repeat' (first | ((first | (k_unfold) | fail); (try dsimp only)) | (first | (k_extra "m_ret") | fail) | (first | (walk1) | fail) | (dsimp only; (first | (walk1) | fail)) | fail "no step"))
  k_with "m_ret" => ((with_reducible refine' hret _ _ _ _ ?_ ?e2 ?e3); (case e2 => k_asm); (case e3 => k_asm); (try k_extra "m_val"))
  k_with "m_ret" => ((with_reducible refine' hret _ _ _ ?_ ?e2 ?e3); (case e2 => k_asm); (case e3 => first | k_asm | exact cb_drop (by assumption) (by k_extra "m_sub")); (try k_extra "m_val"))
  k_with "m_ne" => ((with_reducible refine ofs_ne ?_); simp only [ne_eq, String.reduceEq, not_false_eq_true]; done)
  k_with "m_look" => (first | k_dflt (exact rfl) | repeat (first | with_reducible exact look_here | with_reducible exact look_ithere | with_reducible refine Eq.trans (look_next (by k_extra "m_ne")) ?_ | with_reducible refine Eq.trans (look_itnext (by k_extra "m_ne")) ?_ | with_reducible refine Eq.trans (look_off (by k_extra "m_off")) ?_ | with_reducible refine Eq.trans look_nil ?_ | assumption | fail "m_look"))
  k_with "m_kind" => (first | kernel_rfl! | k_dflt (exact rfl) | repeat (first | with_reducible exact kind_here | with_reducible refine Eq.trans (kind_next (by k_extra "m_ne")) ?_ | fail "m_kind"))
  k_with "m_name" => (first | (with_reducible refine' ldK ?k1 ?k4 ?k2 ?k5 ?_; (case k4 => k_extra "m_kind"); (case k1 => first | assumption | k_dflt assumption); (case k2 => k_extra "m_look"); (case k5 => simp only [ne_eq, String.reduceEq, not_false_eq_true])) | fail)
  k_with "m_ev" => (with_reducible refine' ev_ld ?k1 ?k4 ?k2 ?k5; (case k4 => k_extra "m_kind"); (case k1 => first | assumption | k_dflt assumption); (case k2 => k_extra "m_look"); (case k5 => simp only [ne_eq, String.reduceEq, not_false_eq_true]))
  k_with "m_att" => (with_reducible refine' attr_ev ?zv1 ?_; (case zv1 => k_extra "m_ev"))
  k_with "m_ite" => (first | with_reducible refine ite_tt ?_ | with_reducible refine ite_ff ?_ | (with_reducible refine dec_pos ?c ?_; (case c => omega)) | (with_reducible refine dec_neg ?c ?_; (case c => omega)) | (with_reducible refine ine_pos ?c ?_; (case c => omega)) | (with_reducible refine ine_neg ?c ?_; (case c => omega)) | (with_reducible refine ieq_pos ?c ?_; (case c => omega)) | (with_reducible refine ieq_neg ?c ?_; (case c => omega)) | (with_reducible refine split_dec ?_ ?_ <;> intro _) | (with_reducible refine split_ine ?_ ?_ <;> intro _) | (with_reducible refine split_ieq ?_ ?_ <;> intro _))
  trivial
set_option maxHeartbeats 4000000 in
theorem wk_depth_ok {w : World} {news : Led} {o : Obj} {lv : List Value} {n : Nat} {lo wk wd v tb : Addr} {p : Int} (ho : WkIn v tb p lo o) (hl : lv.length ≤ 16) :
    Gives w 411 1 [.ref wk] (wkL o lv n lo wk wd news) (fun r => ∃ i t, r = .int i t) := (by exact qz : Qz _ (by
  obtain ⟨h1, h2, h3, h4, h5, h6, h7, h8, h9, h10, h11, h12, h13, h14, h15, k1, k2, k3, k4, k5, k6, k7, k8, k9, k10, k11, k12, k13, k14, k15, tp, tb', tl, tc, ts, th, b, le, wh, wo, hwo, rfl⟩ := ho
  k_with "m_val" => exact ⟨_, _, rfl⟩
  k_with "m_len" => k_dflt (first | (refine' PySem.Calls.call_len_list (items := lv.toArray) (News.isList ?zN9 (.head _)) ?zF9 ?_; (case zN9 => assumption); (case zF9 => (simp only [List.size_toArray]; omega))) | fail)
  constructor
  intro pF loF meF mgF mbF dp un gd cnF csF aF cdF clF outer A₀ base h₀ LF mF sF QF EF B F X N T hk hd hu hret
  refine wpAny_call ?_
  k_dflt (refine' code_defK ([(Str.ofString "self", .ref wk)]).reverse ?k1 ?k2 ?k3 ?k4 ?k5 ?kA ?kF ?kK ?k6 ?k7 ?k8 ?k9 ?kB ?_ ?c2 ?c3 ?c4 ?c5; (case kA => exact rfl); (case kF => exact rfl); (case kK => exact hk); (case k1 => exact B); (case k2 => exact F); (case k3 => exact X); (case k4 => exact N); (case k5 => exact T); (case k6 => k_is); (case k7 => k_is); (case k8 => ktr_room); (case k9 => first | exact BindsTo.of_eq rfl | exact binds_K (by k_in) rfl (by k_is) rfl rfl rfl); (case c5 => decide); (case kB => exact locs (by kernel_rfl!)); (case c2 => exact rfl); (case c3 => exact rfl); (case c4 => exact rfl); k_whole; intro g' L' h' FG' F' N' B' X' T'; (try dsimp only [List.reverse, List.reverseAux] at F'); (try dsimp only); (try k_fold); (try (show (let ak : Around := _; wpAny _ ak _ _ _ _)); intro ak))
  k_extra "m_steps"))
set_option maxHeartbeats 4000000 in
theorem wk_end_word_ok {w : World} {news : Led} {o : Obj} {lv : List Value} {n k : Nat} {lo wk wd v tb : Addr} {p : Int} (hA : WkA lo wk wd news) (ho : WkIn v tb p lo o) (hl : lv.length ≤ k) :
    GivesU w 418 1 [.ref wk] (wkL o lv n lo wk wd news) (WkR lo wk wd v tb p k news) := (by exact qz : Qz _ (by
  obtain ⟨l1, l2, l3, l4⟩ := hA
  obtain ⟨h1, h2, h3, h4, h5, h6, h7, h8, h9, h10, h11, h12, h13, h14, h15, k1, k2, k3, k4, k5, k6, k7, k8, k9, k10, k11, k12, k13, k14, k15, tp, tb', tl, tc, ts, th, b, le, wh, wo, hwo, rfl⟩ := ho
  k_with "m_val" => exact ⟨rfl, _, _, _, rfl, ⟨_, _, _, _, _, _, _, _, _, _, _, _, _, _, _, _, _, _, _, _, _, _, _, _, _, _, _, _, _, _, _, _, _, _, _, _, _, _, _, _, .inl rfl, rfl⟩, hl⟩
  rcases hwo with rfl | ⟨i9, t9, rfl⟩
  ·
    constructor
    intro pF loF meF mgF mbF dp un gd cnF csF aF cdF clF outer A₀ base h₀ LF mF sF QF EF B F X N T hk hd hu hret
    refine wpAny_call ?_
    k_dflt (refine' code_defK ([(Str.ofString "self", .ref wk)]).reverse ?k1 ?k2 ?k3 ?k4 ?k5 ?kA ?kF ?kK ?k6 ?k7 ?k8 ?k9 ?kB ?_ ?c2 ?c3 ?c4 ?c5; (case kA => exact rfl); (case kF => exact rfl); (case kK => exact hk); (case k1 => exact B); (case k2 => exact F); (case k3 => exact X); (case k4 => exact N); (case k5 => exact T); (case k6 => k_is); (case k7 => k_is); (case k8 => ktr_room); (case k9 => first | exact BindsTo.of_eq rfl | exact binds_K (by k_in) rfl (by k_is) rfl rfl rfl); (case c5 => decide); (case kB => exact locs (by kernel_rfl!)); (case c2 => exact rfl); (case c3 => exact rfl); (case c4 => exact rfl); k_whole; intro g' L' h' FG' F' N' B' X' T'; (try dsimp only [List.reverse, List.reverseAux] at F'); (try dsimp only); (try k_fold); (try (show (let ak : Around := _; wpAny _ ak _ _ _ _)); intro ak))
    k_extra "m_steps"
  ·
    constructor
    intro pF loF meF mgF mbF dp un gd cnF csF aF cdF clF outer A₀ base h₀ LF mF sF QF EF B F X N T hk hd hu hret
    refine wpAny_call ?_
    k_dflt (refine' code_defK ([(Str.ofString "self", .ref wk)]).reverse ?k1 ?k2 ?k3 ?k4 ?k5 ?kA ?kF ?kK ?k6 ?k7 ?k8 ?k9 ?kB ?_ ?c2 ?c3 ?c4 ?c5; (case kA => exact rfl); (case kF => exact rfl); (case kK => exact hk); (case k1 => exact B); (case k2 => exact F); (case k3 => exact X); (case k4 => exact N); (case k5 => exact T); (case k6 => k_is); (case k7 => k_is); (case k8 => ktr_room); (case k9 => first | exact BindsTo.of_eq rfl | exact binds_K (by k_in) rfl (by k_is) rfl rfl rfl); (case c5 => decide); (case kB => exact locs (by kernel_rfl!)); (case c2 => exact rfl); (case c3 => exact rfl); (case c4 => exact rfl); k_whole; intro g' L' h' FG' F' N' B' X' T'; (try dsimp only [List.reverse, List.reverseAux] at F'); (try dsimp only); (try k_fold); (try (show (let ak : Around := _; wpAny _ ak _ _ _ _)); intro ak))
    k_extra "m_steps"))
set_option maxHeartbeats 4000000 in
theorem wk_begin_word_ok {w : World} {news : Led} {o : Obj} {lv : List Value} {n k : Nat} {lo wk wd v tb : Addr} {p : Int} (hA : WkA lo wk wd news) (ho : WkIn v tb p lo o) (hl : lv.length ≤ k) :
    GivesU w 425 1 [.ref wk] (wkL o lv n lo wk wd news) (WkR lo wk wd v tb p k news) := (by exact qz : Qz _ (by
  obtain ⟨l1, l2, l3, l4⟩ := hA
  obtain ⟨h1, h2, h3, h4, h5, h6, h7, h8, h9, h10, h11, h12, h13, h14, h15, k1, k2, k3, k4, k5, k6, k7, k8, k9, k10, k11, k12, k13, k14, k15, tp, tb', tl, tc, ts, th, b, le, wh, wo, hwo, rfl⟩ := ho
  k_with "m_val" => exact ⟨rfl, _, _, _, rfl, ⟨_, _, _, _, _, _, _, _, _, _, _, _, _, _, _, _, _, _, _, _, _, _, _, _, _, _, _, _, _, _, _, _, _, _, _, _, _, _, _, _, .inr ⟨_, _, rfl⟩, rfl⟩, hl⟩
  rcases hwo with rfl | ⟨i9, t9, rfl⟩
  ·
    constructor
    intro pF loF meF mgF mbF dp un gd cnF csF aF cdF clF outer A₀ base h₀ LF mF sF QF EF B F X N T hk hd hu hret
    refine wpAny_call ?_
    k_dflt (refine' code_defK ([(Str.ofString "self", .ref wk)]).reverse ?k1 ?k2 ?k3 ?k4 ?k5 ?kA ?kF ?kK ?k6 ?k7 ?k8 ?k9 ?kB ?_ ?c2 ?c3 ?c4 ?c5; (case kA => exact rfl); (case kF => exact rfl); (case kK => exact hk); (case k1 => exact B); (case k2 => exact F); (case k3 => exact X); (case k4 => exact N); (case k5 => exact T); (case k6 => k_is); (case k7 => k_is); (case k8 => ktr_room); (case k9 => first | exact BindsTo.of_eq rfl | exact binds_K (by k_in) rfl (by k_is) rfl rfl rfl); (case c5 => decide); (case kB => exact locs (by kernel_rfl!)); (case c2 => exact rfl); (case c3 => exact rfl); (case c4 => exact rfl); k_whole; intro g' L' h' FG' F' N' B' X' T'; (try dsimp only [List.reverse, List.reverseAux] at F'); (try dsimp only); (try k_fold); (try (show (let ak : Around := _; wpAny _ ak _ _ _ _)); intro ak))
    k_extra "m_steps"
  ·
    constructor
    intro pF loF meF mgF mbF dp un gd cnF csF aF cdF clF outer A₀ base h₀ LF mF sF QF EF B F X N T hk hd hu hret
    refine wpAny_call ?_
    k_dflt (refine' code_defK ([(Str.ofString "self", .ref wk)]).reverse ?k1 ?k2 ?k3 ?k4 ?k5 ?kA ?kF ?kK ?k6 ?k7 ?k8 ?k9 ?kB ?_ ?c2 ?c3 ?c4 ?c5; (case kA => exact rfl); (case kF => exact rfl); (case kK => exact hk); (case k1 => exact B); (case k2 => exact F); (case k3 => exact X); (case k4 => exact N); (case k5 => exact T); (case k6 => k_is); (case k7 => k_is); (case k8 => ktr_room); (case k9 => first | exact BindsTo.of_eq rfl | exact binds_K (by k_in) rfl (by k_is) rfl rfl rfl); (case c5 => decide); (case kB => exact locs (by kernel_rfl!)); (case c2 => exact rfl); (case c3 => exact rfl); (case c4 => exact rfl); k_whole; intro g' L' h' FG' F' N' B' X' T'; (try dsimp only [List.reverse, List.reverseAux] at F'); (try dsimp only); (try k_fold); (try (show (let ak : Around := _; wpAny _ ak _ _ _ _)); intro ak))
    k_extra "m_steps"))
theorem u41 : True := by
  k_with_none
  k_with "m_om" => (with_reducible first | decide | assumption | ((show @LT.lt Nat _ _ _); first | exact rm_a ‹_› rfl | exact rm_b ‹_› rfl | exact rm_c ‹_› | exact rm_d ‹_› | exact tn_a ‹_› | exact tn_b ‹_› | exact tn_c ‹_› | exact tn_d ‹_› | exact rm_e ‹_› rfl | exact tp_d ‹_› | exact tp_e ‹_› ‹_› | exact tp_h ‹_› | exact tp_v ‹_› | exact tr_a ‹_›) | ((show @LE.le Nat _ _ _); first | exact tn_h ‹_› | exact tp_c ‹_› | exact tp_k ‹_› ‹_› | exact tp_l ‹_› ‹_› ‹_› | exact tp_x ‹_› ‹_› | exact Nat.le_trans ‹_› ‹_›) | ((show @LT.lt Int _ _ _); first | exact tn_m ‹_› | exact tn_n ‹_› | exact tp_p ‹_› ‹_› ‹_› ‹_› | exact tp_q ‹_› ‹_› ‹_› | exact Int.lt_of_toNat_lt ‹_› | exact Int.lt_of_lt_of_le ‹_› ‹_› | exact Int.sub_left_lt_of_lt_add ‹_› | exact tr_b ‹_›) | ((show @LE.le Int _ _ _); first | exact tn_i ‹_› | exact tn_j ‹_› | exact tn_k ‹_› | exact tn_l ‹_› | exact tn_o ‹_› | exact tp_i ‹_› ‹_› | exact tp_a ‹_› ‹_› | exact tp_a1 ‹_› ‹_› | exact tp_b ‹_› | exact tp_r ‹_› ‹_› | exact tp_s ‹_› | exact Int.le_of_lt (Int.not_le.mp ‹_›) | exact Int.sub_nonneg_of_le ‹_› | exact Int.sub_nonneg_of_le (tn_i ‹_›) | exact Int.le_add_of_nonneg_right (Int.natCast_nonneg _)) | ((show @Eq Nat _ _); first | exact tn_s ‹_› | exact tn_t ‹_› | exact (tn_s ‹_›).symm | exact tp_g ‹_› | exact tn_s (Int.not_le.mp ‹_›) | exact tp_u ‹_› | exact tp_j) | ((show @Eq Int _ _); first | exact tn_e ‹_› | exact tn_f ‹_› | exact tn_g ‹_› | exact tp_m ‹_› | exact tp_n ‹_› | exact tp_o ‹_› ‹_› | exact tp_w ‹_› ‹_› | exact tp_y) | exact tp_f ‹_› ‹_› | exact tp_f ‹_› | exact tp_f (Int.not_lt.mp ‹_›) | exact tp_t ‹_› ‹_› | exact Nat.ne_of_gt ‹_› | exact Nat.ne_of_lt ‹_› | exact Nat.ne_of_gt (Nat.lt_trans ‹_› ‹_›))
  k_with "m_sd1" => ((case k1 | k2 | k3 | k4 | k5 => assumption))
  k_with "m_sd2" => ((case kK => first | exact rfl | assumption); (case kd => first | (dsimp only [ktrTop, Around.deeper]; omega) | ktr_room); (case ku => first | (dsimp only [ktrTop, Around.deeper]; omega) | ktr_units))
  k_with "m_steps" => (repeat' (first | ((first | (k_unfold) | fail); (try dsimp only)) | (first | (k_extra "m_ret") | fail) | (first | (walk1) | fail) | (dsimp only; (first | (walk1) | fail)) | fail "no step"))
  k_with "m_ret" => ((with_reducible refine' hret _ _ _ _ ?_ ?e2 ?e3); (case e2 => k_asm); (case e3 => k_asm); (try k_extra "m_val"))
  k_with "m_call" => k_dflt ((first | (refine' Gives.useM ?G ?k1 ?k2 ?k3 ?k4 ?k5 ?kK ?kd ?ku ?_; k_extra "m_sd1"; (case G => k_extra "m_con"); k_extra "m_sd2"; intro r9 h9 tk9 hR9 F9 N9; (try k_sweep); (k_extra "m_open"); ((try dsimp only); (try k_fold))) | fail))
  k_with "m_ne" => ((with_reducible refine ofs_ne ?_); simp only [ne_eq, String.reduceEq, not_false_eq_true]; done)
  k_with "m_look" => (first | k_dflt (exact rfl) | repeat (first | with_reducible exact look_here | with_reducible exact look_ithere | with_reducible refine Eq.trans (look_next (by k_extra "m_ne")) ?_ | with_reducible refine Eq.trans (look_itnext (by k_extra "m_ne")) ?_ | with_reducible refine Eq.trans (look_off (by k_extra "m_off")) ?_ | with_reducible refine Eq.trans look_nil ?_ | assumption | fail "m_look"))
  k_with "m_kind" => (first | kernel_rfl! | k_dflt (exact rfl) | repeat (first | with_reducible exact kind_here | with_reducible refine Eq.trans (kind_next (by k_extra "m_ne")) ?_ | fail "m_kind"))
  k_with "m_name" => (first | (with_reducible refine' ldK ?k1 ?k4 ?k2 ?k5 ?_; (case k4 => k_extra "m_kind"); (case k1 => first | assumption | k_dflt assumption); (case k2 => k_extra "m_look"); (case k5 => simp only [ne_eq, String.reduceEq, not_false_eq_true])) | fail)
  k_with "m_ev" => (with_reducible refine' ev_ld ?k1 ?k4 ?k2 ?k5; (case k4 => k_extra "m_kind"); (case k1 => first | assumption | k_dflt assumption); (case k2 => k_extra "m_look"); (case k5 => simp only [ne_eq, String.reduceEq, not_false_eq_true]))
  k_with "m_spl" => (with_reducible first | (refine' args_ev1 ?zv1 ?_; (case zv1 => k_extra "m_ev")) | (refine' args_ev2 ?zv1 ?zv2 ?_; (case zv1 => k_extra "m_ev"); (case zv2 => k_extra "m_ev")) | (refine' args_ev3 ?zv1 ?zv2 ?zv3 ?_; (case zv1 => k_extra "m_ev"); (case zv2 => k_extra "m_ev"); (case zv3 => k_extra "m_ev")) | (refine' args_ev4 ?zv1 ?zv2 ?zv3 ?zv4 ?_; (case zv1 => k_extra "m_ev"); (case zv2 => k_extra "m_ev"); (case zv3 => k_extra "m_ev"); (case zv4 => k_extra "m_ev")))
  k_with "m_att" => (with_reducible refine' attr_ev ?zv1 ?_; (case zv1 => k_extra "m_ev"))
  k_with "m_cam" => (with_reducible refine' method_ev ?zv1 ?_; (case zv1 => k_extra "m_ev"))
  k_with "m_ite" => (first | with_reducible refine ite_tt ?_ | with_reducible refine ite_ff ?_ | (with_reducible refine dec_pos ?c ?_; (case c => omega)) | (with_reducible refine dec_neg ?c ?_; (case c => omega)) | (with_reducible refine ine_pos ?c ?_; (case c => omega)) | (with_reducible refine ine_neg ?c ?_; (case c => omega)) | (with_reducible refine ieq_pos ?c ?_; (case c => omega)) | (with_reducible refine ieq_neg ?c ?_; (case c => omega)) | (with_reducible refine split_dec ?_ ?_ <;> intro _) | (with_reducible refine split_ine ?_ ?_ <;> intro _) | (with_reducible refine split_ieq ?_ ?_ <;> intro _))
  k_with "m_call" => k_dflt (first | (refine' GivesU.useWk ?G ?k1 ?k2 ?k3 ?k4 ?k5 ?kK ?kd ?ku ?_; k_extra "m_sd1"; (case G => k_extra "m_conU"); k_extra "m_sd2"; intro o9 lv9 n9 h9 tk9 ho9 hl9 F9 N9; (try k_sweep); (try k_extra "m_openWk") <;> ((try dsimp only); (try k_fold))) | fail)
  k_with "m_wkin" => first | assumption | exact ⟨_, _, _, _, _, _, _, _, _, _, _, _, _, _, _, _, _, _, _, _, _, _, _, _, _, _, _, _, _, _, _, _, _, _, _, _, _, _, _, _, .inl rfl, rfl⟩ | exact ⟨_, _, _, _, _, _, _, _, _, _, _, _, _, _, _, _, _, _, _, _, _, _, _, _, _, _, _, _, _, _, _, _, _, _, _, _, _, _, _, _, .inr ⟨_, _, rfl⟩, rfl⟩ | exact ⟨_, _, _, _, _, _, _, _, _, _, _, _, _, _, _, _, _, _, _, _, _, _, _, _, _, _, _, _, _, _, _, _, _, _, _, _, _, _, _, _, by assumption, rfl⟩
  k_with "m_wka" => first | assumption | exact ⟨by assumption, by assumption, by assumption, by assumption⟩
  k_with "m_open" => (rcases hR9 with ⟨i9, t9, rfl⟩)
  k_with "m_con" => ((with_reducible show Gives _ 411 _ _ _ _); exact wk_depth_ok (by k_extra "m_wkin") (by omega))
  k_with "m_conU" => ((with_reducible show GivesU _ 418 _ _ _ _); exact wk_end_word_ok (by k_extra "m_wka") (by k_extra "m_wkin") (by assumption))
  trivial
set_option maxHeartbeats 4000000 in
theorem wk_open_at_ok {w : World} {news : Led} {o : Obj} {lv : List Value} {n k : Nat} {lo wk wd v tb : Addr} {p x : Int} {t : Tok} (hA : WkA lo wk wd news) (ho : WkIn v tb p lo o) (hl : lv.length ≤ k) (hk9 : k ≤ 16) :
    GivesU w 432 2 [.ref wk, .int x t] (wkL o lv n lo wk wd news) (WkR lo wk wd v tb p (k + 1) news) := (by exact qz : Qz _ (by
  obtain ⟨l1, l2, l3, l4⟩ := hA
  obtain ⟨h1, h2, h3, h4, h5, h6, h7, h8, h9, h10, h11, h12, h13, h14, h15, k1, k2, k3, k4, k5, k6, k7, k8, k9, k10, k11, k12, k13, k14, k15, tp, tb', tl, tc, ts, th, b, le, wh, wo, hwo, rfl⟩ := ho
  k_with "m_openU" => (rcases hR9 with ⟨rfl, o9, lv9, n9, rfl, ho9, hl9⟩; rcases ho9 with ⟨h1, h2, h3, h4, h5, h6, h7, h8, h9, h10, h11, h12, h13, h14, h15, k1, k2, k3, k4, k5, k6, k7, k8, k9, k10, k11, k12, k13, k14, k15, tp, tb', tl, tc, ts, th, b, le, wh, wo, hwo, rfl⟩)
  k_with "m_openWk" => (rcases ho9 with ⟨h1, h2, h3, h4, h5, h6, h7, h8, h9, h10, h11, h12, h13, h14, h15, k1, k2, k3, k4, k5, k6, k7, k8, k9, k10, k11, k12, k13, k14, k15, tp, tb', tl, tc, ts, th, b, le, wh, wo, hwo, rfl⟩)
  k_with "m_app" => k_dflt (first | (refine' append_K (hsz := ?zz9) ?zF9 ?zN9 ?zU9 ?_; (case zF9 => assumption); (case zN9 => assumption); (case zU9 => k_upd); (case zz9 => (rw [List.size_toArray, PySem.sizeLine_eq]; omega)); intro h9 F9 N9; (try k_sweep); (try dsimp only); (try k_fold)) | fail)
  k_with "m_val" => exact ⟨rfl, _, lv9 ++ [Value.int x t], _, by rw [List.push_toArray], ⟨_, _, _, _, _, _, _, _, _, _, _, _, _, _, _, _, _, _, _, _, _, _, _, _, _, _, _, _, _, _, _, _, _, _, _, _, _, _, _, _, by assumption, rfl⟩, by rw [List.length_append]; exact Nat.succ_le_succ hl9⟩
  constructor
  intro pF loF meF mgF mbF dp un gd cnF csF aF cdF clF outer A₀ base h₀ LF mF sF QF EF B F X N T hk hd hu hret
  refine wpAny_call ?_
  k_dflt (refine' code_defK ([(Str.ofString "self", .ref wk), (Str.ofString "place", .int x t)]).reverse ?k1 ?k2 ?k3 ?k4 ?k5 ?kA ?kF ?kK ?k6 ?k7 ?k8 ?k9 ?kB ?_ ?c2 ?c3 ?c4 ?c5; (case kA => exact rfl); (case kF => exact rfl); (case kK => exact hk); (case k1 => exact B); (case k2 => exact F); (case k3 => exact X); (case k4 => exact N); (case k5 => exact T); (case k6 => k_is); (case k7 => k_is); (case k8 => ktr_room); (case k9 => first | exact BindsTo.of_eq rfl | exact binds_K (by k_in) rfl (by k_is) rfl rfl rfl); (case c5 => decide); (case kB => exact locs (by kernel_rfl!)); (case c2 => exact rfl); (case c3 => exact rfl); (case c4 => exact rfl); k_whole; intro g' L' h' FG' F' N' B' X' T'; (try dsimp only [List.reverse, List.reverseAux] at F'); (try dsimp only); (try k_fold); (try (show (let ak : Around := _; wpAny _ ak _ _ _ _)); intro ak))
  k_extra "m_steps"))
set_option maxHeartbeats 4000000 in
theorem wk_close_ok {w : World} {news : Led} {o : Obj} {lv : List Value} {n k : Nat} {lo wk wd v tb : Addr} {p : Int} (hA : WkA lo wk wd news) (ho : WkIn v tb p lo o) (hl : lv.length ≤ k) (hk9 : k ≤ 16) :
    GivesU w 439 2 [.ref wk] (wkL o lv n lo wk wd news) (WkR lo wk wd v tb p k news) := (by exact qz : Qz _ (by
  obtain ⟨l1, l2, l3, l4⟩ := hA
  obtain ⟨h1, h2, h3, h4, h5, h6, h7, h8, h9, h10, h11, h12, h13, h14, h15, k1, k2, k3, k4, k5, k6, k7, k8, k9, k10, k11, k12, k13, k14, k15, tp, tb', tl, tc, ts, th, b, le, wh, wo, hwo, rfl⟩ := ho
  k_with "m_openU" => (rcases hR9 with ⟨rfl, o9, lv9, n9, rfl, ho9, hl9⟩; rcases ho9 with ⟨h1, h2, h3, h4, h5, h6, h7, h8, h9, h10, h11, h12, h13, h14, h15, k1, k2, k3, k4, k5, k6, k7, k8, k9, k10, k11, k12, k13, k14, k15, tp, tb', tl, tc, ts, th, b, le, wh, wo, hwo, rfl⟩; rcases app_cases lv9 with rfl | ⟨p9, y9, rfl⟩; rotate_left; (have hp9 := app_len hl9); rotate_left)
  k_with "m_openWk" => (rcases ho9 with ⟨h1, h2, h3, h4, h5, h6, h7, h8, h9, h10, h11, h12, h13, h14, h15, k1, k2, k3, k4, k5, k6, k7, k8, k9, k10, k11, k12, k13, k14, k15, tp, tb', tl, tc, ts, th, b, le, wh, wo, hwo, rfl⟩; rcases app_cases lv9 with rfl | ⟨p9, y9, rfl⟩; rotate_left; (have hp9 := app_len hl9); rotate_left)
  k_with "m_eqr" => k_dflt (first | (refine' PySem.SeqAt.eq_listAt (items := ([] : List Value).toArray) (items2 := ([] : List Value).toArray) (e := fun _ => true) (News.isList ?zN9 ?zm9) (News.isList ?zM9 (.head _)) rfl ?zu9 (fun _ h => absurd h (Nat.not_lt_zero _)) ?_; (case zN9 => assumption); (case zm9 => k_mem); (case zM9 => assumption); (case zu9 => first | ((try simp only [ak]); dsimp only [ktrTop, Around.deeper]; omega) | ktr_units); (rename News _ _ _ _ => lN9); have lM9 := drop_head lN9; clear lN9) | fail)
  k_with "m_eqr" => k_dflt (first | (refine' PySem.SeqAt.eq_list_lengthsAt (items := (p9 ++ [y9]).toArray) (items2 := ([] : List Value).toArray) (News.isList ?zN9 ?zm9) (News.isList ?zM9 (.head _)) (by simp) ?zu9 ?_; (case zN9 => assumption); (case zm9 => k_mem); (case zM9 => assumption); (case zu9 => first | ((try simp only [ak]); dsimp only [ktrTop, Around.deeper]; omega) | ktr_units); (rename News _ _ _ _ => lN9); have lM9 := drop_head lN9; clear lN9) | fail)
  k_with "m_pop" => k_dflt (first | (refine' kl_pop (p := p9) (y := y9) ?zF9 ?zN9 ?ze9 ?zU9 ?zz9 ?_; (case zF9 => assumption); (case zN9 => assumption); (case zU9 => k_upd); (case ze9 => exact last_app); (case zz9 => (rw [PySem.sizeLine_eq]; dsimp only; omega)); intro h9 F9 N9; (try k_sweep); (try dsimp only); (try k_fold)) | fail)
  k_with "m_val" => exact ⟨rfl, _, _, _, rfl, ⟨_, _, _, _, _, _, _, _, _, _, _, _, _, _, _, _, _, _, _, _, _, _, _, _, _, _, _, _, _, _, _, _, _, _, _, _, _, _, _, _, by assumption, rfl⟩, by first | exact hl9 | (rw [List.length_append] at hl9; exact Nat.le_of_succ_le hl9)⟩
  constructor
  intro pF loF meF mgF mbF dp un gd cnF csF aF cdF clF outer A₀ base h₀ LF mF sF QF EF B F X N T hk hd hu hret
  refine wpAny_call ?_
  k_dflt (refine' code_defK ([(Str.ofString "self", .ref wk)]).reverse ?k1 ?k2 ?k3 ?k4 ?k5 ?kA ?kF ?kK ?k6 ?k7 ?k8 ?k9 ?kB ?_ ?c2 ?c3 ?c4 ?c5; (case kA => exact rfl); (case kF => exact rfl); (case kK => exact hk); (case k1 => exact B); (case k2 => exact F); (case k3 => exact X); (case k4 => exact N); (case k5 => exact T); (case k6 => k_is); (case k7 => k_is); (case k8 => ktr_room); (case k9 => first | exact BindsTo.of_eq rfl | exact binds_K (by k_in) rfl (by k_is) rfl rfl rfl); (case c5 => decide); (case kB => exact locs (by kernel_rfl!)); (case c2 => exact rfl); (case c3 => exact rfl); (case c4 => exact rfl); k_whole; intro g' L' h' FG' F' N' B' X' T'; (try dsimp only [List.reverse, List.reverseAux] at F'); (try dsimp only); (try k_fold); (try (show (let ak : Around := _; wpAny _ ak _ _ _ _)); intro ak))
  k_extra "m_steps"))
theorem u42 : True := by
  k_with_none
  k_with "m_om" => (with_reducible first | decide | assumption | ((show @LT.lt Nat _ _ _); first | exact rm_a ‹_› rfl | exact rm_b ‹_› rfl | exact rm_c ‹_› | exact rm_d ‹_› | exact tn_a ‹_› | exact tn_b ‹_› | exact tn_c ‹_› | exact tn_d ‹_› | exact rm_e ‹_› rfl | exact tp_d ‹_› | exact tp_e ‹_› ‹_› | exact tp_h ‹_› | exact tp_v ‹_› | exact tr_a ‹_›) | ((show @LE.le Nat _ _ _); first | exact tn_h ‹_› | exact tp_c ‹_› | exact tp_k ‹_› ‹_› | exact tp_l ‹_› ‹_› ‹_› | exact tp_x ‹_› ‹_› | exact Nat.le_trans ‹_› ‹_›) | ((show @LT.lt Int _ _ _); first | exact tn_m ‹_› | exact tn_n ‹_› | exact tp_p ‹_› ‹_› ‹_› ‹_› | exact tp_q ‹_› ‹_› ‹_› | exact Int.lt_of_toNat_lt ‹_› | exact Int.lt_of_lt_of_le ‹_› ‹_› | exact Int.sub_left_lt_of_lt_add ‹_› | exact tr_b ‹_›) | ((show @LE.le Int _ _ _); first | exact tn_i ‹_› | exact tn_j ‹_› | exact tn_k ‹_› | exact tn_l ‹_› | exact tn_o ‹_› | exact tp_i ‹_› ‹_› | exact tp_a ‹_› ‹_› | exact tp_a1 ‹_› ‹_› | exact tp_b ‹_› | exact tp_r ‹_› ‹_› | exact tp_s ‹_› | exact Int.le_of_lt (Int.not_le.mp ‹_›) | exact Int.sub_nonneg_of_le ‹_› | exact Int.sub_nonneg_of_le (tn_i ‹_›) | exact Int.le_add_of_nonneg_right (Int.natCast_nonneg _)) | ((show @Eq Nat _ _); first | exact tn_s ‹_› | exact tn_t ‹_› | exact (tn_s ‹_›).symm | exact tp_g ‹_› | exact tn_s (Int.not_le.mp ‹_›) | exact tp_u ‹_› | exact tp_j) | ((show @Eq Int _ _); first | exact tn_e ‹_› | exact tn_f ‹_› | exact tn_g ‹_› | exact tp_m ‹_› | exact tp_n ‹_› | exact tp_o ‹_› ‹_› | exact tp_w ‹_› ‹_› | exact tp_y) | exact tp_f ‹_› ‹_› | exact tp_f ‹_› | exact tp_f (Int.not_lt.mp ‹_›) | exact tp_t ‹_› ‹_› | exact Nat.ne_of_gt ‹_› | exact Nat.ne_of_lt ‹_› | exact Nat.ne_of_gt (Nat.lt_trans ‹_› ‹_›))
  k_with "m_sd1" => ((case k1 | k2 | k3 | k4 | k5 => assumption))
  k_with "m_sd2" => ((case kK => first | exact rfl | assumption); (case kd => first | (dsimp only [ktrTop, Around.deeper]; omega) | ktr_room); (case ku => first | (dsimp only [ktrTop, Around.deeper]; omega) | ktr_units))
  k_with "m_steps" => (repeat' (first | ((first | (k_unfold) | fail); (try dsimp only)) | (first | (k_extra "m_ret") | fail) | (first | (walk1) | fail) | (dsimp only; (first | (walk1) | fail)) | fail "no step"))
  k_with "m_ret" => ((with_reducible refine' hret _ _ _ _ ?_ ?e2 ?e3); (case e2 => k_asm); (case e3 => k_asm); (try k_extra "m_val"))
  k_with "m_call" => k_dflt ((first | (refine' Gives.useM ?G ?k1 ?k2 ?k3 ?k4 ?k5 ?kK ?kd ?ku ?_; k_extra "m_sd1"; (case G => k_extra "m_con"); k_extra "m_sd2"; intro r9 h9 tk9 hR9 F9 N9; (try k_sweep); (k_extra "m_open"); ((try dsimp only); (try k_fold))) | fail))
  k_with "m_eqs" => ((with_reducible show wpAny _ _ (compareOp CmpOp.Eq (Value.str (Kd.str _) _) (Value.str _ _)) _ _ _); with_reducible first | refine eq_kd (kd_w _) ?_ | refine eq_kd (kd_u _) ?_ | refine eq_kd (kd_o _) ?_ | refine eq_kd (kd_c _) ?_ | refine eq_kd (kd_n1 _) ?_ | refine eq_kd (kd_n2 _) ?_ | refine eq_kd (kd_n3 _) ?_ | refine eq_kd (kd_n4 _) ?_ | refine eq_kd (kd_n5 _) ?_ | refine eq_kd (kd_n6 _) ?_ | refine eq_kd (kd_n7 _) ?_ | refine eq_kd (kd_n8 _) ?_)
  k_with "m_nes" => ((with_reducible show wpAny _ _ (compareOp CmpOp.NotEq (Value.str (Kd.str _) _) (Value.str _ _)) _ _ _); with_reducible refine ne_kd (kd_ne9 _) ?_)
  k_with "m_ne" => ((with_reducible refine ofs_ne ?_); simp only [ne_eq, String.reduceEq, not_false_eq_true]; done)
  k_with "m_look" => (first | k_dflt (exact rfl) | repeat (first | with_reducible exact look_here | with_reducible exact look_ithere | with_reducible refine Eq.trans (look_next (by k_extra "m_ne")) ?_ | with_reducible refine Eq.trans (look_itnext (by k_extra "m_ne")) ?_ | with_reducible refine Eq.trans (look_off (by k_extra "m_off")) ?_ | with_reducible refine Eq.trans look_nil ?_ | assumption | fail "m_look"))
  k_with "m_kind" => (first | kernel_rfl! | k_dflt (exact rfl) | repeat (first | with_reducible exact kind_here | with_reducible refine Eq.trans (kind_next (by k_extra "m_ne")) ?_ | fail "m_kind"))
  k_with "m_name" => (with_reducible refine' nameK ?k0 ?k1 ?k2 ?k5 ?k3 ?k6 ?_; (case k5 => k_extra "m_kind"); (case k0 => first | assumption | k_dflt assumption); (case k1 => assumption); (case k2 => assumption); (case k3 => k_dflt k_is); (case k6 => simp only [ne_eq, String.reduceEq, not_false_eq_true]))
  k_with "m_name" => (first | (with_reducible refine' ldK ?k1 ?k4 ?k2 ?k5 ?_; (case k4 => k_extra "m_kind"); (case k1 => first | assumption | k_dflt assumption); (case k2 => k_extra "m_look"); (case k5 => simp only [ne_eq, String.reduceEq, not_false_eq_true])) | fail)
  k_with "m_ev" => (with_reducible refine' ev_name ?k0 ?k1 ?k2 ?k5 ?k3 ?k6; (case k5 => k_extra "m_kind"); (case k0 => first | assumption | k_dflt assumption); (case k1 => assumption); (case k2 => assumption); (case k3 => k_dflt k_is); (case k6 => simp only [ne_eq, String.reduceEq, not_false_eq_true]))
  k_with "m_ev" => (with_reducible refine' ev_ld ?k1 ?k4 ?k2 ?k5; (case k4 => k_extra "m_kind"); (case k1 => first | assumption | k_dflt assumption); (case k2 => k_extra "m_look"); (case k5 => simp only [ne_eq, String.reduceEq, not_false_eq_true]))
  k_with "m_spl" => (with_reducible first | (refine' args_ev1 ?zv1 ?_; (case zv1 => k_extra "m_ev")) | (refine' args_ev2 ?zv1 ?zv2 ?_; (case zv1 => k_extra "m_ev"); (case zv2 => k_extra "m_ev")) | (refine' args_ev3 ?zv1 ?zv2 ?zv3 ?_; (case zv1 => k_extra "m_ev"); (case zv2 => k_extra "m_ev"); (case zv3 => k_extra "m_ev")) | (refine' args_ev4 ?zv1 ?zv2 ?zv3 ?zv4 ?_; (case zv1 => k_extra "m_ev"); (case zv2 => k_extra "m_ev"); (case zv3 => k_extra "m_ev"); (case zv4 => k_extra "m_ev")))
  k_with "m_att" => (with_reducible refine' attr_ev ?zv1 ?_; (case zv1 => k_extra "m_ev"))
  k_with "m_cal" => (with_reducible refine' call_ev ?zv1 ?_; (case zv1 => k_extra "m_ev"))
  k_with "m_cam" => (with_reducible refine' method_ev ?zv1 ?_; (case zv1 => k_extra "m_ev"))
  k_with "m_itc" => (with_reducible (first | (refine' itc_ev2 ?zv1 ?zv2 ?_; (case zv1 => k_extra "m_ev"); (case zv2 => k_extra "m_ev")) | (refine' itc_ei ?zv1 ?_; (case zv1 => k_extra "m_ev")) | (refine' itc_ev ?zv1 ?_; (case zv1 => k_extra "m_ev"))))
  k_with "m_ite" => (first | with_reducible refine ite_tt ?_ | with_reducible refine ite_ff ?_ | (with_reducible refine dec_pos ?c ?_; (case c => omega)) | (with_reducible refine dec_neg ?c ?_; (case c => omega)) | (with_reducible refine ine_pos ?c ?_; (case c => omega)) | (with_reducible refine ine_neg ?c ?_; (case c => omega)) | (with_reducible refine ieq_pos ?c ?_; (case c => omega)) | (with_reducible refine ieq_neg ?c ?_; (case c => omega)) | (with_reducible refine split_dec ?_ ?_ <;> intro _) | (with_reducible refine split_ine ?_ ?_ <;> intro _) | (with_reducible refine split_ieq ?_ ?_ <;> intro _))
  k_with "m_sub" => (intro q9 h9; repeat' (first | exact h9 | refine List.mem_append_left _ ?_ | refine List.mem_cons_of_mem _ ?_))
  k_with "m_view" => (first | assumption | exact ViewIn.mono (by assumption) (by k_extra "m_sub"))
  k_with "m_syn" => (first | assumption | exact SynIn.mono (by assumption) (by k_extra "m_sub"))
  k_with "m_con" => ((with_reducible show Gives _ 218 _ _ _ _); exact is_escape_ok (by k_extra "m_syn"))
  k_with "m_con" => ((with_reducible show Gives _ 225 _ _ _ _); exact is_word_part_ok (by k_extra "m_syn"))
  k_with "m_con" => ((with_reducible show Gives _ 211 _ _ _ _); exact has_ok (by k_extra "m_syn") (.inl rfl))
  k_with "m_tab" => (first | assumption | exact TableIn.mono (by assumption) (by k_extra "m_sub"))
  k_with "m_con" => ((with_reducible show Gives _ 348 _ _ _ _); exact syntax_in_ok (by k_extra "m_view") (by k_extra "m_tab") (by assumption) (by omega) (by omega))
  k_with "m_con" => ((with_reducible show Gives _ 362 _ _ _ _); exact begin_mark_ok (by k_extra "m_view") (by k_extra "m_tab") (by assumption) (by omega) (by omega))
  k_with "m_call" => k_dflt (first | (refine' GivesU.useWk ?G ?k1 ?k2 ?k3 ?k4 ?k5 ?kK ?kd ?ku ?_; k_extra "m_sd1"; (case G => k_extra "m_conU"); k_extra "m_sd2"; intro o9 lv9 n9 h9 tk9 ho9 hl9 F9 N9; (try k_sweep); (try k_extra "m_openWk") <;> ((try dsimp only); (try k_fold))) | fail)
  k_with "m_wkin" => first | assumption | exact ⟨_, _, _, _, _, _, _, _, _, _, _, _, _, _, _, _, _, _, _, _, _, _, _, _, _, _, _, _, _, _, _, _, _, _, _, _, _, _, _, _, .inl rfl, rfl⟩ | exact ⟨_, _, _, _, _, _, _, _, _, _, _, _, _, _, _, _, _, _, _, _, _, _, _, _, _, _, _, _, _, _, _, _, _, _, _, _, _, _, _, _, .inr ⟨_, _, rfl⟩, rfl⟩ | exact ⟨_, _, _, _, _, _, _, _, _, _, _, _, _, _, _, _, _, _, _, _, _, _, _, _, _, _, _, _, _, _, _, _, _, _, _, _, _, _, _, _, by assumption, rfl⟩
  k_with "m_wka" => first | assumption | exact ⟨by assumption, by assumption, by assumption, by assumption⟩
  k_with "m_open" => (rcases hR9 with ⟨i9, t9, rfl⟩)
  k_with "m_conU" => ((with_reducible show GivesU _ 418 _ _ _ _); exact wk_end_word_ok (by k_extra "m_wka") (by k_extra "m_wkin") (by assumption))
  k_with "m_conU" => ((with_reducible show GivesU _ 425 _ _ _ _); exact wk_begin_word_ok (by k_extra "m_wka") (by k_extra "m_wkin") (by assumption))
  k_with "m_conU" => ((with_reducible show GivesU _ 432 _ _ _ _); exact wk_open_at_ok (by k_extra "m_wka") (by k_extra "m_wkin") (by assumption) (by omega))
  k_with "m_conU" => ((with_reducible show GivesU _ 439 _ _ _ _); exact wk_close_ok (by k_extra "m_wka") (by k_extra "m_wkin") (by assumption) (by omega))
  trivial
set_option maxHeartbeats 4000000 in
theorem wk_kind_ok {w : World} {news : Led} {o : Obj} {lv : List Value} {n kk : Nat} {lo wk wd v tb a : Addr} {k : Kd} {p : Int} (hA : WkA lo wk wd news) (ho : WkIn v tb p lo o) (hl : lv.length ≤ kk) (hk9 : kk ≤ 16) (hs : SynIn news a k) :
    GivesU w 509 4 [.ref wk, .ref a] (wkL o lv n lo wk wd news) (WkR lo wk wd v tb p (kk + 1) news) := (by exact qz : Qz _ (by
  obtain ⟨l1, l2, l3, l4⟩ := hA
  obtain ⟨h1, h2, h3, h4, h5, h6, h7, h8, h9, h10, h11, h12, h13, h14, h15, k1, k2, k3, k4, k5, k6, k7, k8, k9, k10, k11, k12, k13, k14, k15, tp, tb', tl, tc, ts, th, b, le, wh, wo, hwo, rfl⟩ := ho
  obtain ⟨dx9, d1, d2, d3, i1, i2, i3, t1, t3, mv, o1, o3⟩ := id hs
  k_with "m_openU" => (rcases hR9 with ⟨rfl, o9, lv9, n9, rfl, ho9, hl9⟩)
  k_with "m_openWk" => skip
  k_with "m_val" => exact ⟨rfl, _, _, _, rfl, ho9, by omega⟩
  constructor
  intro pF loF meF mgF mbF dp un gd cnF csF aF cdF clF outer A₀ base h₀ LF mF sF QF EF B F X N T hk hd hu hret
  refine wpAny_call ?_
  k_dflt (refine' code_defK ([(Str.ofString "self", .ref wk), (Str.ofString "syntax", .ref a)]).reverse ?k1 ?k2 ?k3 ?k4 ?k5 ?kA ?kF ?kK ?k6 ?k7 ?k8 ?k9 ?kB ?_ ?c2 ?c3 ?c4 ?c5; (case kA => exact rfl); (case kF => exact rfl); (case kK => exact hk); (case k1 => exact B); (case k2 => exact F); (case k3 => exact X); (case k4 => exact N); (case k5 => exact T); (case k6 => k_is); (case k7 => k_is); (case k8 => ktr_room); (case k9 => first | exact BindsTo.of_eq rfl | exact binds_K (by k_in) rfl (by k_is) rfl rfl rfl); (case c5 => decide); (case kB => exact locs (by kernel_rfl!)); (case c2 => exact rfl); (case c3 => exact rfl); (case c4 => exact rfl); k_whole; intro g' L' h' FG' F' N' B' X' T'; (try dsimp only [List.reverse, List.reverseAux] at F'); (try dsimp only); (try k_fold); (try (show (let ak : Around := _; wpAny _ ak _ _ _ _)); intro ak))
  k_extra "m_steps"))
set_option maxHeartbeats 4000000 in
theorem wk_plain_ok {w : World} {news : Led} {o : Obj} {lv : List Value} {n kk : Nat} {lo wk wd v tb : Addr} {cs : List Int} {p x y : Int} {t : Tok} {syn : Kd → Addr} (hv : ViewIn news v cs p) (ht : TableIn w news tb syn) (hg : Sgns cs) (hA : WkA lo wk wd news) (ho : WkIn v tb x lo o) (hl : lv.length ≤ kk) (hk9 : kk ≤ 16) (h0 : p ≤ x) (h1 : x < p + cs.length) :
    GivesU w 502 5 [.ref wk, .int y t] (wkL o lv n lo wk wd news) (WkR lo wk wd v tb (x + 1) (kk + 1) news) := (by exact qz : Qz _ (by
  obtain ⟨l1, l2, l3, l4⟩ := hA
  obtain ⟨h1, h2, h3, h4, h5, h6, h7, h8, h9, h10, h11, h12, h13, h14, h15, k1, k2, k3, k4, k5, k6, k7, k8, k9, k10, k11, k12, k13, k14, k15, tp, tb', tl, tc, ts, th, b, le, wh, wo, hwo, rfl⟩ := ho
  obtain ⟨td, rd, o2, g1, g2, j1, j2, n1, n2, n3, hd9, lo9, hy⟩ := id ht
  have hs9 := hy (kdOf (codeR cs (x - p)))
  obtain ⟨dx9, d1, d2, d3, i1, i2, i3, t1, t3, mv, o1, o3⟩ := id hs9
  k_with "m_conU" => ((with_reducible show GivesU _ 509 _ _ _ _); exact wk_kind_ok (by k_extra "m_wka") (by k_extra "m_wkin") (by assumption) (by omega) (by assumption))
  k_with "m_openU" => (rcases hR9 with ⟨rfl, o9, lv9, n9, rfl, ho9, hl9⟩; rcases ho9 with ⟨h1, h2, h3, h4, h5, h6, h7, h8, h9, h10, h11, h12, h13, h14, h15, k1, k2, k3, k4, k5, k6, k7, k8, k9, k10, k11, k12, k13, k14, k15, tp, tb', tl, tc, ts, th, b, le, wh, wo, hwo, rfl⟩)
  k_with "m_openWk" => (rcases ho9 with ⟨h1, h2, h3, h4, h5, h6, h7, h8, h9, h10, h11, h12, h13, h14, h15, k1, k2, k3, k4, k5, k6, k7, k8, k9, k10, k11, k12, k13, k14, k15, tp, tb', tl, tc, ts, th, b, le, wh, wo, hwo, rfl⟩)
  k_with "m_val" => exact ⟨rfl, _, _, _, rfl, ⟨_, _, _, _, _, _, _, _, _, _, _, _, _, _, _, _, _, _, _, _, _, _, _, _, _, _, _, _, _, _, _, _, _, _, _, _, _, _, _, _, by assumption, rfl⟩, by omega⟩
  constructor
  intro pF loF meF mgF mbF dp un gd cnF csF aF cdF clF outer A₀ base h₀ LF mF sF QF EF B F X N T hk hd hu hret
  refine wpAny_call ?_
  k_dflt (refine' code_defK ([(Str.ofString "self", .ref wk), (Str.ofString "limit", .int y t)]).reverse ?k1 ?k2 ?k3 ?k4 ?k5 ?kA ?kF ?kK ?k6 ?k7 ?k8 ?k9 ?kB ?_ ?c2 ?c3 ?c4 ?c5; (case kA => exact rfl); (case kF => exact rfl); (case kK => exact hk); (case k1 => exact B); (case k2 => exact F); (case k3 => exact X); (case k4 => exact N); (case k5 => exact T); (case k6 => k_is); (case k7 => k_is); (case k8 => ktr_room); (case k9 => first | exact BindsTo.of_eq rfl | exact binds_K (by k_in) rfl (by k_is) rfl rfl rfl); (case c5 => decide); (case kB => exact locs (by kernel_rfl!)); (case c2 => exact rfl); (case c3 => exact rfl); (case c4 => exact rfl); k_whole; intro g' L' h' FG' F' N' B' X' T'; (try dsimp only [List.reverse, List.reverseAux] at F'); (try dsimp only); (try k_fold); (try (show (let ak : Around := _; wpAny _ ak _ _ _ _)); intro ak))
  k_extra "m_steps"))
set_option maxHeartbeats 4000000 in
theorem wk_step_ok {w : World} {news : Led} {o : Obj} {lv : List Value} {n kk : Nat} {lo wk wd v tb : Addr} {cs : List Int} {p x y : Int} {t : Tok} {syn : Kd → Addr} (hv : ViewIn news v cs p) (ht : TableIn w news tb syn) (hg : Sgns cs) (hA : WkA lo wk wd news) (ho : WkIn v tb x lo o) (hl : lv.length ≤ kk) (hk9 : kk ≤ 16) (h0 : p ≤ x) (h1 : x < p + cs.length) :
    GivesU w 516 6 [.ref wk, .int y t] (wkL o lv n lo wk wd news) (WkR lo wk wd v tb (x + 1) (kk + 1) news) := (by exact qz : Qz _ (by
  obtain ⟨l1, l2, l3, l4⟩ := hA
  obtain ⟨h1, h2, h3, h4, h5, h6, h7, h8, h9, h10, h11, h12, h13, h14, h15, k1, k2, k3, k4, k5, k6, k7, k8, k9, k10, k11, k12, k13, k14, k15, tp, tb', tl, tc, ts, th, b, le, wh, wo, hwo, rfl⟩ := ho
  k_with "m_conU" => ((with_reducible show GivesU _ 502 _ _ _ _); exact wk_plain_ok (by assumption) (by assumption) (by assumption) (by k_extra "m_wka") (by k_extra "m_wkin") (by assumption) (by omega) (by omega) (by omega))
  k_with "m_openU" => (rcases hR9 with ⟨rfl, o9, lv9, n9, rfl, ho9, hl9⟩)
  k_with "m_openWk" => skip
  k_with "m_val" => exact ⟨rfl, _, _, _, rfl, ho9, by omega⟩
  constructor
  intro pF loF meF mgF mbF dp un gd cnF csF aF cdF clF outer A₀ base h₀ LF mF sF QF EF B F X N T hk hd hu hret
  refine wpAny_call ?_
  k_dflt (refine' code_defK ([(Str.ofString "self", .ref wk), (Str.ofString "limit", .int y t)]).reverse ?k1 ?k2 ?k3 ?k4 ?k5 ?kA ?kF ?kK ?k6 ?k7 ?k8 ?k9 ?kB ?_ ?c2 ?c3 ?c4 ?c5; (case kA => exact rfl); (case kF => exact rfl); (case kK => exact hk); (case k1 => exact B); (case k2 => exact F); (case k3 => exact X); (case k4 => exact N); (case k5 => exact T); (case k6 => k_is); (case k7 => k_is); (case k8 => ktr_room); (case k9 => first | exact BindsTo.of_eq rfl | exact binds_K (by k_in) rfl (by k_is) rfl rfl rfl); (case c5 => decide); (case kB => exact locs (by kernel_rfl!)); (case c2 => exact rfl); (case c3 => exact rfl); (case c4 => exact rfl); k_whole; intro g' L' h' FG' F' N' B' X' T'; (try dsimp only [List.reverse, List.reverseAux] at F'); (try dsimp only); (try k_fold); (try (show (let ak : Around := _; wpAny _ ak _ _ _ _)); intro ak))
  k_extra "m_steps"))
theorem u43 : True := by
  k_with_none
  k_with "m_om" => (with_reducible first | decide | assumption | ((show @LT.lt Nat _ _ _); first | exact rm_a ‹_› rfl | exact rm_b ‹_› rfl | exact rm_c ‹_› | exact rm_d ‹_› | exact tn_a ‹_› | exact tn_b ‹_› | exact tn_c ‹_› | exact tn_d ‹_› | exact rm_e ‹_› rfl | exact tp_d ‹_› | exact tp_e ‹_› ‹_› | exact tp_h ‹_› | exact tp_v ‹_› | exact tr_a ‹_›) | ((show @LE.le Nat _ _ _); first | exact tn_h ‹_› | exact tp_c ‹_› | exact tp_k ‹_› ‹_› | exact tp_l ‹_› ‹_› ‹_› | exact tp_x ‹_› ‹_› | exact Nat.le_trans ‹_› ‹_›) | ((show @LT.lt Int _ _ _); first | exact tn_m ‹_› | exact tn_n ‹_› | exact tp_p ‹_› ‹_› ‹_› ‹_› | exact tp_q ‹_› ‹_› ‹_› | exact Int.lt_of_toNat_lt ‹_› | exact Int.lt_of_lt_of_le ‹_› ‹_› | exact Int.sub_left_lt_of_lt_add ‹_› | exact tr_b ‹_›) | ((show @LE.le Int _ _ _); first | exact tn_i ‹_› | exact tn_j ‹_› | exact tn_k ‹_› | exact tn_l ‹_› | exact tn_o ‹_› | exact tp_i ‹_› ‹_› | exact tp_a ‹_› ‹_› | exact tp_a1 ‹_› ‹_› | exact tp_b ‹_› | exact tp_r ‹_› ‹_› | exact tp_s ‹_› | exact Int.le_of_lt (Int.not_le.mp ‹_›) | exact Int.sub_nonneg_of_le ‹_› | exact Int.sub_nonneg_of_le (tn_i ‹_›) | exact Int.le_add_of_nonneg_right (Int.natCast_nonneg _)) | ((show @Eq Nat _ _); first | exact tn_s ‹_› | exact tn_t ‹_› | exact (tn_s ‹_›).symm | exact tp_g ‹_› | exact tn_s (Int.not_le.mp ‹_›) | exact tp_u ‹_› | exact tp_j) | ((show @Eq Int _ _); first | exact tn_e ‹_› | exact tn_f ‹_› | exact tn_g ‹_› | exact tp_m ‹_› | exact tp_n ‹_› | exact tp_o ‹_› ‹_› | exact tp_w ‹_› ‹_› | exact tp_y) | exact tp_f ‹_› ‹_› | exact tp_f ‹_› | exact tp_f (Int.not_lt.mp ‹_›) | exact tp_t ‹_› ‹_› | exact Nat.ne_of_gt ‹_› | exact Nat.ne_of_lt ‹_› | exact Nat.ne_of_gt (Nat.lt_trans ‹_› ‹_›))
  k_with "m_steps" => (repeat' (first | ((first | (k_unfold) | fail); (try dsimp only)) | (first | (k_extra "m_ret") | fail) | (first | (walk1) | fail) | (dsimp only; (first | (walk1) | fail)) | fail "no step"))
  k_with "m_ret" => ((with_reducible refine' hret _ _ _ _ ?_ ?e2 ?e3); (case e2 => k_asm); (case e3 => k_asm); (try k_extra "m_val"))
  k_with "m_ne" => ((with_reducible refine ofs_ne ?_); simp only [ne_eq, String.reduceEq, not_false_eq_true]; done)
  k_with "m_look" => (first | k_dflt (exact rfl) | repeat (first | with_reducible exact look_here | with_reducible exact look_ithere | with_reducible refine Eq.trans (look_next (by k_extra "m_ne")) ?_ | with_reducible refine Eq.trans (look_itnext (by k_extra "m_ne")) ?_ | with_reducible refine Eq.trans (look_off (by k_extra "m_off")) ?_ | with_reducible refine Eq.trans look_nil ?_ | assumption | fail "m_look"))
  k_with "m_kind" => (first | kernel_rfl! | k_dflt (exact rfl) | repeat (first | with_reducible exact kind_here | with_reducible refine Eq.trans (kind_next (by k_extra "m_ne")) ?_ | fail "m_kind"))
  k_with "m_name" => (first | (with_reducible refine' ldK ?k1 ?k4 ?k2 ?k5 ?_; (case k4 => k_extra "m_kind"); (case k1 => first | assumption | k_dflt assumption); (case k2 => k_extra "m_look"); (case k5 => simp only [ne_eq, String.reduceEq, not_false_eq_true])) | fail)
  k_with "m_ev" => (with_reducible refine' ev_ld ?k1 ?k4 ?k2 ?k5; (case k4 => k_extra "m_kind"); (case k1 => first | assumption | k_dflt assumption); (case k2 => k_extra "m_look"); (case k5 => simp only [ne_eq, String.reduceEq, not_false_eq_true]))
  k_with "m_att" => (with_reducible refine' attr_ev ?zv1 ?_; (case zv1 => k_extra "m_ev"))
  trivial
inductive PsR (news : Led) (r : Value) (n' : Led) : Prop where
  | mk (ps pd : Addr) (o : Obj) (q1 : r = .ref ps) (q2 : n' = (ps, instObj 179 pd) :: (pd, o) :: news) (q3 : PsIn o)
inductive WkNR (v tb : Addr) (x : Int) (news : Led) (r : Value) (n' : Led) : Prop where
  | mk (lo wk wd : Addr) (o : Obj) (n : Nat) (q1 : r = .ref wk) (q2 : n' = wkL o [] n lo wk wd news) (q3 : WkIn v tb x lo o) (q4 : WkA lo wk wd news)
set_option maxHeartbeats 4000000 in
theorem ps_new_ok {w : World} {news : Led} :
    GivesU w 179 3 [] news (PsR news) := (by exact qz : Qz _ (by
  k_with "m_val" => exact ⟨_, _, _, rfl, rfl, ⟨_, _, _, _, _, _, _, _, _, _, _, _, _, _, _, _, _, _, _, _, _, _, _, _, rfl⟩⟩
  constructor
  intro pF loF meF mgF mbF dp un gd cnF csF aF cdF clF outer A₀ base h₀ LF mF sF QF EF B F X N T hk hd hu hret
  k_dflt (refine' call_cls ?k1 ?k2 ?k3 ?k4 ?k5 ?k6 ?_; (case k1 => exact F); (case k2 => exact X); (case k3 => exact N); (case k4 => k_is); (case k5 => k_is); (case k6 => k_is); k_whole; clear F N; intro x9 d9 h9 F N l1 l2; (try k_lt l1); (try k_lt2 l2))
  k_dflt (refine' code_defK ([(Str.ofString "self", .ref x9), (Str.ofString "opens", .ref 140), (Str.ofString "below", .int 0 374), (Str.ofString "least", .int 0 375), (Str.ofString "whole", .none), (Str.ofString "word", .none), (Str.ofString "string", .none), (Str.ofString "comment", .int 0 376), (Str.ofString "style", .str (Str.ofString "") 377), (Str.ofString "nests", .bool false), (Str.ofString "start", .none), (Str.ofString "quoted", .bool false), (Str.ofString "half", .str (Str.ofString "") 378)]).reverse ?k1 ?k2 ?k3 ?k4 ?k5 ?kA ?kF ?kK ?k6 ?k7 ?k8 ?k9 ?kB ?_ ?c2 ?c3 ?c4 ?c5; (case kA => exact rfl); (case kF => exact rfl); (case kK => exact hk); (case k1 => exact B); (case k2 => exact F); (case k3 => exact X); (case k4 => exact N); (case k5 => exact T); (case k6 => k_is); (case k7 => k_is); (case k8 => ktr_room); (case k9 => first | exact BindsTo.of_eq rfl | exact binds_K (by k_in) rfl (by k_is) rfl rfl rfl); (case c5 => decide); (case kB => exact locs (by kernel_rfl!)); (case c2 => exact rfl); (case c3 => exact rfl); (case c4 => exact rfl); k_whole; intro g' L' h' FG' F' N' B' X' T'; (try dsimp only [List.reverse, List.reverseAux] at F'); (try dsimp only); (try k_fold); (try (show (let ak : Around := _; wpAny _ ak _ _ _ _)); intro ak))
  k_extra "m_steps"))
set_option maxHeartbeats 4000000 in
theorem walk_new_ok {w : World} {news : Led} {v tb ps pd : Addr} {o : Obj} {x : Int} {t : Tok} (m1 : (ps, instObj 179 pd) ∈ news) (m2 : (pd, o) ∈ news) (ho : PsIn o) :
    GivesU w 519 3 [.ref v, .ref tb, .int x t, .ref ps] news (WkNR v tb x news) := (by exact qz : Qz _ (by
  obtain ⟨q1, q2, q3, q4, q5, q6, q7, q8, q9, q10, q11, q12, q13, q14, q15, q16, q17, q18, q19, q20, q21, q22, q23, q24, rfl⟩ := ho
  k_with "m_lst" => k_dflt (first | ((rename Fr _ _ _ _ => lF); (have hX9 : (Mine.T.heap_1 w.params).In _ := Frag.In.keeps (by assumption) lF.keep); refine' list_copyKT (items := #[]) lF ?zN9 ⟨_, hX9 _ _ (by k_is), rfl, _, rfl⟩ ?_ ?zz9; (case zN9 => assumption); (case zz9 => exact Nat.zero_le _); clear lF hX9; intro D9 c9 h9 F9 N9 l9; (have l8 := id l9); (try k_lt l9); (try k_sweep); (try dsimp only); (try k_fold)) | fail)
  k_with "m_val" => exact ⟨_, _, _, _, _, rfl, rfl, ⟨_, _, _, _, _, _, _, _, _, _, _, _, _, _, _, _, _, _, _, _, _, _, _, _, _, _, _, _, _, _, _, _, _, _, _, _, _, _, _, _, .inl rfl, rfl⟩, ⟨fun q hq => Nat.ne_of_lt (l1 q hq), by assumption, by omega, fun q hq => Nat.ne_of_lt (l8 q (.tail _ (.tail _ hq)))⟩⟩
  constructor
  intro pF loF meF mgF mbF dp un gd cnF csF aF cdF clF outer A₀ base h₀ LF mF sF QF EF B F X N T hk hd hu hret
  k_dflt (refine' call_cls ?k1 ?k2 ?k3 ?k4 ?k5 ?k6 ?_; (case k1 => exact F); (case k2 => exact X); (case k3 => exact N); (case k4 => k_is); (case k5 => k_is); (case k6 => k_is); k_whole; clear F N; intro x9 d9 h9 F N l1 l2; (try k_lt l1); (try k_lt2 l2))
  k_dflt (refine' code_defK ([(Str.ofString "self", .ref x9), (Str.ofString "view", .ref v), (Str.ofString "table", .ref tb), (Str.ofString "place", .int x t), (Str.ofString "state", .ref ps)]).reverse ?k1 ?k2 ?k3 ?k4 ?k5 ?kA ?kF ?kK ?k6 ?k7 ?k8 ?k9 ?kB ?_ ?c2 ?c3 ?c4 ?c5; (case kA => exact rfl); (case kF => exact rfl); (case kK => exact hk); (case k1 => exact B); (case k2 => exact F); (case k3 => exact X); (case k4 => exact N); (case k5 => exact T); (case k6 => k_is); (case k7 => k_is); (case k8 => ktr_room); (case k9 => first | exact BindsTo.of_eq rfl | exact binds_K (by k_in) rfl (by k_is) rfl rfl rfl); (case c5 => decide); (case kB => exact locs (by kernel_rfl!)); (case c2 => exact rfl); (case c3 => exact rfl); (case c4 => exact rfl); k_whole; intro g' L' h' FG' F' N' B' X' T'; (try dsimp only [List.reverse, List.reverseAux] at F'); (try dsimp only); (try k_fold); (try (show (let ak : Around := _; wpAny _ ak _ _ _ _)); intro ak))
  k_extra "m_steps"))
theorem u44 : True := by
  k_with_none
  k_with "m_om" => (with_reducible first | decide | assumption | ((show @LT.lt Nat _ _ _); first | exact rm_a ‹_› rfl | exact rm_b ‹_› rfl | exact rm_c ‹_› | exact rm_d ‹_› | exact tn_a ‹_› | exact tn_b ‹_› | exact tn_c ‹_› | exact tn_d ‹_› | exact rm_e ‹_› rfl | exact tp_d ‹_› | exact tp_e ‹_› ‹_› | exact tp_h ‹_› | exact tp_v ‹_› | exact tr_a ‹_›) | ((show @LE.le Nat _ _ _); first | exact tn_h ‹_› | exact tp_c ‹_› | exact tp_k ‹_› ‹_› | exact tp_l ‹_› ‹_› ‹_› | exact tp_x ‹_› ‹_› | exact Nat.le_trans ‹_› ‹_›) | ((show @LT.lt Int _ _ _); first | exact tn_m ‹_› | exact tn_n ‹_› | exact tp_p ‹_› ‹_› ‹_› ‹_› | exact tp_q ‹_› ‹_› ‹_› | exact Int.lt_of_toNat_lt ‹_› | exact Int.lt_of_lt_of_le ‹_› ‹_› | exact Int.sub_left_lt_of_lt_add ‹_› | exact tr_b ‹_›) | ((show @LE.le Int _ _ _); first | exact tn_i ‹_› | exact tn_j ‹_› | exact tn_k ‹_› | exact tn_l ‹_› | exact tn_o ‹_› | exact tp_i ‹_› ‹_› | exact tp_a ‹_› ‹_› | exact tp_a1 ‹_› ‹_› | exact tp_b ‹_› | exact tp_r ‹_› ‹_› | exact tp_s ‹_› | exact Int.le_of_lt (Int.not_le.mp ‹_›) | exact Int.sub_nonneg_of_le ‹_› | exact Int.sub_nonneg_of_le (tn_i ‹_›) | exact Int.le_add_of_nonneg_right (Int.natCast_nonneg _)) | ((show @Eq Nat _ _); first | exact tn_s ‹_› | exact tn_t ‹_› | exact (tn_s ‹_›).symm | exact tp_g ‹_› | exact tn_s (Int.not_le.mp ‹_›) | exact tp_u ‹_› | exact tp_j) | ((show @Eq Int _ _); first | exact tn_e ‹_› | exact tn_f ‹_› | exact tn_g ‹_› | exact tp_m ‹_› | exact tp_n ‹_› | exact tp_o ‹_› ‹_› | exact tp_w ‹_› ‹_› | exact tp_y) | exact tp_f ‹_› ‹_› | exact tp_f ‹_› | exact tp_f (Int.not_lt.mp ‹_›) | exact tp_t ‹_› ‹_› | exact Nat.ne_of_gt ‹_› | exact Nat.ne_of_lt ‹_› | exact Nat.ne_of_gt (Nat.lt_trans ‹_› ‹_›))
  k_with "m_sd1" => ((case k1 | k2 | k3 | k4 | k5 => assumption))
  k_with "m_sd2" => ((case kK => first | exact rfl | assumption); (case kd => first | (dsimp only [ktrTop, Around.deeper]; omega) | ktr_room); (case ku => first | (dsimp only [ktrTop, Around.deeper]; omega) | ktr_units))
  k_with "m_steps" => (repeat' (first | ((first | (k_unfold) | fail); (try dsimp only)) | (first | (k_extra "m_ret") | fail) | (first | (walk1) | fail) | (dsimp only; (first | (walk1) | fail)) | fail "no step"))
  k_with "m_call" => k_dflt ((first | (refine' GivesU.useM ?G ?k1 ?k2 ?k3 ?k4 ?k5 ?kK ?kd ?ku ?_; k_extra "m_sd1"; (case G => k_extra "m_conU"); k_extra "m_sd2"; intro r9 news9 h9 tk9 hR9 F9 N9; (try k_sweep); k_extra "m_openU" <;> ((try dsimp only); (try k_fold))) | fail))
  k_with "m_call" => k_dflt ((first | (refine' Gives.useM ?G ?k1 ?k2 ?k3 ?k4 ?k5 ?kK ?kd ?ku ?_; k_extra "m_sd1"; (case G => k_extra "m_con"); k_extra "m_sd2"; intro r9 h9 tk9 hR9 F9 N9; (try k_sweep); (k_extra "m_open"); ((try dsimp only); (try k_fold))) | fail))
  k_with "m_call" => k_dflt ((first | (refine' Gives.useI ?G ?k1 ?k2 ?k3 ?k4 ?k5 ?kK ?kd ?ku ?_; (case G => k_extra "m_con"); k_extra "m_sd1"; k_extra "m_sd2"; intro t9 h9 tk9 F9 N9; (try k_sweep); (try k_extra "m_openI"); (try dsimp only); (try k_fold)) | fail))
  k_with "m_ne" => ((with_reducible refine ofs_ne ?_); simp only [ne_eq, String.reduceEq, not_false_eq_true]; done)
  k_with "m_look" => (first | k_dflt (exact rfl) | repeat (first | with_reducible exact look_here | with_reducible exact look_ithere | with_reducible refine Eq.trans (look_next (by k_extra "m_ne")) ?_ | with_reducible refine Eq.trans (look_itnext (by k_extra "m_ne")) ?_ | with_reducible refine Eq.trans (look_off (by k_extra "m_off")) ?_ | with_reducible refine Eq.trans look_nil ?_ | assumption | fail "m_look"))
  k_with "m_all" => ((try dsimp only); repeat (first | with_reducible exact all_nil | (with_reducible refine' all_cons _ _; (· k_extra "m_look")) | fail "m_all"))
  k_with "m_kind" => (first | kernel_rfl! | k_dflt (exact rfl) | repeat (first | with_reducible exact kind_here | with_reducible refine Eq.trans (kind_next (by k_extra "m_ne")) ?_ | fail "m_kind"))
  k_with "m_name" => (first | (with_reducible refine' ldK ?k1 ?k4 ?k2 ?k5 ?_; (case k4 => k_extra "m_kind"); (case k1 => first | assumption | k_dflt assumption); (case k2 => k_extra "m_look"); (case k5 => simp only [ne_eq, String.reduceEq, not_false_eq_true])) | fail)
  k_with "m_ev" => (with_reducible refine' ev_name ?k0 ?k1 ?k2 ?k5 ?k3 ?k6; (case k5 => k_extra "m_kind"); (case k0 => first | assumption | k_dflt assumption); (case k1 => assumption); (case k2 => assumption); (case k3 => k_dflt k_is); (case k6 => simp only [ne_eq, String.reduceEq, not_false_eq_true]))
  k_with "m_ev" => (with_reducible refine' ev_ld ?k1 ?k4 ?k2 ?k5; (case k4 => k_extra "m_kind"); (case k1 => first | assumption | k_dflt assumption); (case k2 => k_extra "m_look"); (case k5 => simp only [ne_eq, String.reduceEq, not_false_eq_true]))
  k_with "m_spl" => (with_reducible refine' args_ev ?zv1 ?_; (case zv1 => k_extra "m_ev"))
  k_with "m_spl" => (with_reducible first | (refine' args_ev1 ?zv1 ?_; (case zv1 => k_extra "m_ev")) | (refine' args_ev2 ?zv1 ?zv2 ?_; (case zv1 => k_extra "m_ev"); (case zv2 => k_extra "m_ev")) | (refine' args_ev3 ?zv1 ?zv2 ?zv3 ?_; (case zv1 => k_extra "m_ev"); (case zv2 => k_extra "m_ev"); (case zv3 => k_extra "m_ev")) | (refine' args_ev4 ?zv1 ?zv2 ?zv3 ?zv4 ?_; (case zv1 => k_extra "m_ev"); (case zv2 => k_extra "m_ev"); (case zv3 => k_extra "m_ev"); (case zv4 => k_extra "m_ev")))
  k_with "m_att" => (with_reducible refine' attr_ev ?zv1 ?_; (case zv1 => k_extra "m_ev"))
  k_with "m_cal" => (with_reducible refine' call_ev ?zv1 ?_; (case zv1 => k_extra "m_ev"))
  k_with "m_cam" => (with_reducible refine' method_ev ?zv1 ?_; (case zv1 => k_extra "m_ev"))
  k_with "m_itc" => (with_reducible (first | (refine' itc_ev2 ?zv1 ?zv2 ?_; (case zv1 => k_extra "m_ev"); (case zv2 => k_extra "m_ev")) | (refine' itc_ei ?zv1 ?_; (case zv1 => k_extra "m_ev")) | (refine' itc_ev ?zv1 ?_; (case zv1 => k_extra "m_ev"))))
  k_with "m_ite" => (first | with_reducible refine ite_tt ?_ | with_reducible refine ite_ff ?_ | (with_reducible refine dec_pos ?c ?_; (case c => omega)) | (with_reducible refine dec_neg ?c ?_; (case c => omega)) | (with_reducible refine ine_pos ?c ?_; (case c => omega)) | (with_reducible refine ine_neg ?c ?_; (case c => omega)) | (with_reducible refine ieq_pos ?c ?_; (case c => omega)) | (with_reducible refine ieq_neg ?c ?_; (case c => omega)) | (with_reducible refine split_dec ?_ ?_ <;> intro _) | (with_reducible refine split_ine ?_ ?_ <;> intro _) | (with_reducible refine split_ieq ?_ ?_ <;> intro _))
  k_with "m_sub" => (intro q9 h9; repeat' (first | exact h9 | refine List.mem_append_left _ ?_ | refine List.mem_cons_of_mem _ ?_))
  k_with "m_perm" => ((repeat (refine List.forall_mem_cons.mpr ⟨by k_mem, ?_⟩)); k_extra "m_sub")
  k_with "m_view" => (first | assumption | exact ViewIn.mono (by assumption) (by k_extra "m_sub"))
  k_with "m_con" => ((with_reducible show Gives _ 43 _ _ _ _); exact begin_ok (by k_extra "m_view"))
  k_with "m_con" => ((with_reducible show Gives _ 50 _ _ _ _); exact end_ok (by k_extra "m_view"))
  k_with "m_tab" => (first | assumption | exact TableIn.mono (by assumption) (by k_extra "m_sub"))
  k_with "m_call" => k_dflt (first | (refine' GivesU.useWk ?G ?k1 ?k2 ?k3 ?k4 ?k5 ?kK ?kd ?ku ?_; k_extra "m_sd1"; (case G => k_extra "m_conU"); k_extra "m_sd2"; intro o9 lv9 n9 h9 tk9 ho9 hl9 F9 N9; (try k_sweep); (try k_extra "m_openWk") <;> ((try dsimp only); (try k_fold))) | fail)
  k_with "m_wkin" => first | assumption | exact ⟨_, _, _, _, _, _, _, _, _, _, _, _, _, _, _, _, _, _, _, _, _, _, _, _, _, _, _, _, _, _, _, _, _, _, _, _, _, _, _, _, .inl rfl, rfl⟩ | exact ⟨_, _, _, _, _, _, _, _, _, _, _, _, _, _, _, _, _, _, _, _, _, _, _, _, _, _, _, _, _, _, _, _, _, _, _, _, _, _, _, _, .inr ⟨_, _, rfl⟩, rfl⟩ | exact ⟨_, _, _, _, _, _, _, _, _, _, _, _, _, _, _, _, _, _, _, _, _, _, _, _, _, _, _, _, _, _, _, _, _, _, _, _, _, _, _, _, by assumption, rfl⟩
  k_with "m_open" => (rcases hR9 with ⟨i9, t9, rfl⟩)
  k_with "m_conU" => ((with_reducible show GivesU _ 516 _ _ _ _); exact wk_step_ok (by k_extra "m_view") (by k_extra "m_tab") (by assumption) (by k_extra "m_wka") (by k_extra "m_wkin") (by assumption) (by omega) (by omega) (by omega))
  k_with "m_conU" => ((with_reducible show GivesU _ 179 _ _ _ _); exact ps_new_ok)
  k_with "m_conU" => ((with_reducible show GivesU _ 519 _ _ _ _); exact walk_new_ok (by k_mem) (by k_mem) (by assumption))
  trivial
inductive SpR (w : World) (news : Led) (r : Value) (n' : Led) : Prop where
  | mk  (tp cm st : Addr) (oc os : Obj) (q1 : r = .ref tp) (q2 : n' = (tp, tupO [.ref cm, .ref st]) :: (st, os) :: (cm, oc) :: news) (q3 : oc.IsDictOf (PySem.intKind PR w) ([] : List (Int × Value))) (q4 : (cm == sysModules) = false)
set_option maxHeartbeats 4000000 in
theorem spans_to_ok {w : World} {news : Led} {v tb : Addr} {cs : List Int} {p x : Int} {t : Tok} {syn : Kd → Addr} (hv : ViewIn news v cs p) (ht : TableIn w news tb syn) (hg : Sgns cs) (h0 : p ≤ x) (h1 : x ≤ p + cs.length) :
    GivesU w 537 8 [.ref v, .ref tb, .int x t] news (SpR w news) := (by exact qz : Qz _ (by
  obtain ⟨dx, lc, e1, e2, k1, k2, tt, vs, nn9, m1, m2, m3, hI, hlen, hp0, hp1⟩ := id hv
  k_with "m_openU" => (rcases hR9 with ⟨rfl, o9, lv9, n9, rfl, ho9, hl9⟩; rcases ho9 with ⟨h1, h2, h3, h4, h5, h6, h7, h8, h9, h10, h11, h12, h13, h14, h15, k1, k2, k3, k4, k5, k6, k7, k8, k9, k10, k11, k12, k13, k14, k15, tp, tb', tl, tc, ts, th, b, le, wh, wo, hwo, rfl⟩)
  k_with "m_openWk" => (rcases ho9 with ⟨h1, h2, h3, h4, h5, h6, h7, h8, h9, h10, h11, h12, h13, h14, h15, k1, k2, k3, k4, k5, k6, k7, k8, k9, k10, k11, k12, k13, k14, k15, tp, tb', tl, tc, ts, th, b, le, wh, wo, hwo, rfl⟩)
  k_with "m_openU" => (rcases hR9 with ⟨lo, wk, wd, o9, n9, rfl, rfl, ho9, ⟨l1, l2, l3, l4⟩⟩)
  k_with "m_openU" => (rcases hR9 with ⟨ps, pd, o9, rfl, rfl, hp9⟩)
  k_with "m_call" => ((rename News _ _ _ _ => lN9); (have lM9 := drop_tupG lN9); clear lN9; k_extra "m_call")
  k_with "m_dict" => k_dflt (first | (refine' newDict_K ?zF9 ?zN9 (TopRead.nolimit (by k_asm)) ?_; (case zF9 => assumption); (case zN9 => assumption); intro st h9 os F9 N9 lt los hss fss his fis; (try k_lt lt); (try k_sweep)) | fail)
  k_with "m_dict" => k_dflt (first | ((fail_if_success (have := oc)); refine' newDict_K ?zF9 ?zN9 (TopRead.nolimit (by k_asm)) ?_; (case zF9 => assumption); (case zN9 => assumption); intro cm h9 oc F9 N9 lc loc hsc fsc hic fic; (try k_lt lc); (try k_sweep)) | fail)
  k_with "m_open8" => k_dflt (rcases ho8 with ⟨h1, h2, h3, h4, h5, h6, h7, h8, h9, h10, h11, h12, h13, h14, h15, k1, k2, k3, k4, k5, k6, k7, k8, k9, k10, k11, k12, k13, k14, k15, tp, tb', tl, tc, ts, th, b, le, wh, wo, hwo, rfl⟩)
  k_with "m_ret" => ((with_reducible refine' hret _ _ _ _ ?_ ?e2 ?e3); (case e2 => k_asm); rotate_left; (case e3 => exact cb_drop (news := (_, tupO [.ref cm, .ref st]) :: (st, os) :: (cm, oc) :: news) (by assumption) (by k_extra "m_perm")); exact ⟨_, _, _, _, _, rfl, rfl, hic, loc⟩)
  k_with "m_while" => (first | (
    (rename Fr _ _ _ _ => lF); (rename News _ _ _ _ => lN)
    refine' w_while (fun c : Obj × List Value × Nat × Int => wkL c.1 c.2.1 c.2.2.1 lo wk wd ((st, os) :: (cm, oc) :: news)) (fun c => [(Str.ofString "walk", .ref wk), (Str.ofString "comments", .ref cm), (Str.ofString "strings", .ref st), (Str.ofString "view", .ref v), (Str.ofString "table", .ref tb), (Str.ofString "limit", .int x t)]) (fun c => A4 (WkIn v tb c.2.2.2 lo c.1) (p ≤ c.2.2.2) (c.2.2.2 ≤ x) (c.2.1.length ≤ (c.2.2.2 - p).toNat)) (fun c => (x - c.2.2.2).toNat) (o9, [], n9, p) lF (cb_drop lN (by k_extra "m_perm")) ?kk ⟨ho9, Int.le_refl _, h0, Nat.zero_le _⟩ ?_
    (case kk => k_extra "m_all")
    clear lF lN
    rintro ⟨o8, lv, n8, y⟩ u h tk ⟨ho8, y0, y1, y2⟩ lF lN
    (try dsimp only at lF)
    (try dsimp only at lN)
    (try dsimp only at ho8)
    (try dsimp only at y0)
    (try dsimp only at y1)
    (try dsimp only at y2)
    (try k_extra "m_open8")
    (try k_fold))              | fail)
  k_with "m_wend" => k_dflt (first | (refine' wEnd (_, _, _, y + 1) ?k1 ?k2 ?k3 ?k4 ?k5 ?k6; (case k1 => assumption); (case k2 => assumption); (case k4 => (first | (k_extra "m_all") | fail)); (case k3 => (first | (k_extra "m_sub") | fail)); (case k5 => (first | (exact ⟨⟨_, _, _, _, _, _, _, _, _, _, _, _, _, _, _, _, _, _, _, _, _, _, _, _, _, _, _, _, _, _, _, _, _, _, _, _, _, _, _, _, by assumption, rfl⟩, by dsimp only; omega, by dsimp only; omega, by dsimp only; omega⟩) | fail)); (case k6 => (first | (exact (by dsimp only; omega)) | fail))) | fail)
  have hW : ∀ {lo wk wd : Addr} {cm st ps pd : Addr} {oc os op : Obj}, (∀ q ∈ (ps, instObj 179 pd) :: (pd, op) :: news, q.1 ≠ wd) → (∀ q ∈ (ps, instObj 179 pd) :: (pd, op) :: news, q.1 ≠ lo) → cm ≠ wd → st ≠ wd → cm ≠ lo → st ≠ lo → @LT.lt Nat _ wd wk → @LT.lt Nat _ wk lo → WkA lo wk wd ((st, os) :: (cm, oc) :: news) := fun a1 a2 b1 b2 b3 b4 c1 c2 =>
    ⟨List.forall_mem_cons.mpr ⟨b2, List.forall_mem_cons.mpr ⟨b1, fun q hq => a1 q (.tail _ (.tail _ hq))⟩⟩, c1, c2, List.forall_mem_cons.mpr ⟨b4, List.forall_mem_cons.mpr ⟨b3, fun q hq => a2 q (.tail _ (.tail _ hq))⟩⟩⟩
  k_with "m_wka" => exact hW (by assumption) (by assumption) (by k_ne) (by k_ne) (by k_ne) (by k_ne) (by assumption) (by assumption)
  constructor
  intro pF loF meF mgF mbF dp un gd cnF csF aF cdF clF outer A₀ base h₀ LF mF sF QF EF B F X N T hk hd hu hret
  refine wpAny_call ?_
  k_dflt (refine' code_defK ([(Str.ofString "view", .ref v), (Str.ofString "table", .ref tb), (Str.ofString "limit", .int x t)]).reverse ?k1 ?k2 ?k3 ?k4 ?k5 ?kA ?kF ?kK ?k6 ?k7 ?k8 ?k9 ?kB ?_ ?c2 ?c3 ?c4 ?c5; (case kA => exact rfl); (case kF => exact rfl); (case kK => exact hk); (case k1 => exact B); (case k2 => exact F); (case k3 => exact X); (case k4 => exact N); (case k5 => exact T); (case k6 => k_is); (case k7 => k_is); (case k8 => ktr_room); (case k9 => first | exact BindsTo.of_eq rfl | exact binds_K (by k_in) rfl (by k_is) rfl rfl rfl); (case c5 => decide); (case kB => exact locs (by kernel_rfl!)); (case c2 => exact rfl); (case c3 => exact rfl); (case c4 => exact rfl); k_whole; intro g' L' h' FG' F' N' B' X' T'; (try dsimp only [List.reverse, List.reverseAux] at F'); (try dsimp only); (try k_fold); (try (show (let ak : Around := _; wpAny _ ak _ _ _ _)); intro ak))
  k_extra "m_steps"))
theorem u50 : True := by
  k_with_none
  k_with "m_om" => (with_reducible first | decide | assumption | ((show @LT.lt Nat _ _ _); first | exact rm_a ‹_› rfl | exact rm_b ‹_› rfl | exact rm_c ‹_› | exact rm_d ‹_› | exact tn_a ‹_› | exact tn_b ‹_› | exact tn_c ‹_› | exact tn_d ‹_› | exact rm_e ‹_› rfl | exact tp_d ‹_› | exact tp_e ‹_› ‹_› | exact tp_h ‹_› | exact tp_v ‹_› | exact tr_a ‹_›) | ((show @LE.le Nat _ _ _); first | exact tn_h ‹_› | exact tp_c ‹_› | exact tp_k ‹_› ‹_› | exact tp_l ‹_› ‹_› ‹_› | exact tp_x ‹_› ‹_› | exact Nat.le_trans ‹_› ‹_›) | ((show @LT.lt Int _ _ _); first | exact tn_m ‹_› | exact tn_n ‹_› | exact tp_p ‹_› ‹_› ‹_› ‹_› | exact tp_q ‹_› ‹_› ‹_› | exact Int.lt_of_toNat_lt ‹_› | exact Int.lt_of_lt_of_le ‹_› ‹_› | exact Int.sub_left_lt_of_lt_add ‹_› | exact tr_b ‹_›) | ((show @LE.le Int _ _ _); first | exact tn_i ‹_› | exact tn_j ‹_› | exact tn_k ‹_› | exact tn_l ‹_› | exact tn_o ‹_› | exact tp_i ‹_› ‹_› | exact tp_a ‹_› ‹_› | exact tp_a1 ‹_› ‹_› | exact tp_b ‹_› | exact tp_r ‹_› ‹_› | exact tp_s ‹_› | exact Int.le_of_lt (Int.not_le.mp ‹_›) | exact Int.sub_nonneg_of_le ‹_› | exact Int.sub_nonneg_of_le (tn_i ‹_›) | exact Int.le_add_of_nonneg_right (Int.natCast_nonneg _)) | ((show @Eq Nat _ _); first | exact tn_s ‹_› | exact tn_t ‹_› | exact (tn_s ‹_›).symm | exact tp_g ‹_› | exact tn_s (Int.not_le.mp ‹_›) | exact tp_u ‹_› | exact tp_j) | ((show @Eq Int _ _); first | exact tn_e ‹_› | exact tn_f ‹_› | exact tn_g ‹_› | exact tp_m ‹_› | exact tp_n ‹_› | exact tp_o ‹_› ‹_› | exact tp_w ‹_› ‹_› | exact tp_y) | exact tp_f ‹_› ‹_› | exact tp_f ‹_› | exact tp_f (Int.not_lt.mp ‹_›) | exact tp_t ‹_› ‹_› | exact Nat.ne_of_gt ‹_› | exact Nat.ne_of_lt ‹_› | exact Nat.ne_of_gt (Nat.lt_trans ‹_› ‹_›))
  k_with "m_steps" => (repeat' (first | ((first | (k_unfold) | fail); (try dsimp only)) | (first | (k_extra "m_ret") | fail) | (first | (walk1) | fail) | (dsimp only; (first | (walk1) | fail)) | fail "no step"))
  k_with "m_ret" => ((with_reducible refine' hret _ _ _ _ ?_ ?e2 ?e3); (case e2 => k_asm); (case e3 => k_asm); (try k_extra "m_val"))
  k_with "m_look" => (first | k_dflt (exact rfl) | repeat (first | with_reducible exact look_here | with_reducible exact look_ithere | with_reducible refine Eq.trans (look_next (by k_extra "m_ne")) ?_ | with_reducible refine Eq.trans (look_itnext (by k_extra "m_ne")) ?_ | with_reducible refine Eq.trans (look_off (by k_extra "m_off")) ?_ | with_reducible refine Eq.trans look_nil ?_ | assumption | fail "m_look"))
  k_with "m_kind" => (first | kernel_rfl! | k_dflt (exact rfl) | repeat (first | with_reducible exact kind_here | with_reducible refine Eq.trans (kind_next (by k_extra "m_ne")) ?_ | fail "m_kind"))
  k_with "m_name" => (first | (with_reducible refine' ldK ?k1 ?k4 ?k2 ?k5 ?_; (case k4 => k_extra "m_kind"); (case k1 => first | assumption | k_dflt assumption); (case k2 => k_extra "m_look"); (case k5 => simp only [ne_eq, String.reduceEq, not_false_eq_true])) | fail)
  k_with "m_ev" => (with_reducible refine' ev_ld ?k1 ?k4 ?k2 ?k5; (case k4 => k_extra "m_kind"); (case k1 => first | assumption | k_dflt assumption); (case k2 => k_extra "m_look"); (case k5 => simp only [ne_eq, String.reduceEq, not_false_eq_true]))
  k_with "m_itc" => (with_reducible (first | (refine' itc_ev2 ?zv1 ?zv2 ?_; (case zv1 => k_extra "m_ev"); (case zv2 => k_extra "m_ev")) | (refine' itc_ei ?zv1 ?_; (case zv1 => k_extra "m_ev")) | (refine' itc_ev ?zv1 ?_; (case zv1 => k_extra "m_ev"))))
  k_with "m_ite" => (first | with_reducible refine ite_tt ?_ | with_reducible refine ite_ff ?_ | (with_reducible refine dec_pos ?c ?_; (case c => omega)) | (with_reducible refine dec_neg ?c ?_; (case c => omega)) | (with_reducible refine ine_pos ?c ?_; (case c => omega)) | (with_reducible refine ine_neg ?c ?_; (case c => omega)) | (with_reducible refine ieq_pos ?c ?_; (case c => omega)) | (with_reducible refine ieq_neg ?c ?_; (case c => omega)) | (with_reducible refine split_dec ?_ ?_ <;> intro _) | (with_reducible refine split_ine ?_ ?_ <;> intro _) | (with_reducible refine split_ieq ?_ ?_ <;> intro _))
  trivial
inductive ScNR (v tb : Addr) (x n : Int) (news : Led) (r : Value) (n' : Led) : Prop where
  | mk (sc sd : Addr) (o : Obj) (q1 : r = .ref sc) (q2 : n' = scL o sc sd news) (q3 : ScIn v tb x n (if 0 < n then 0 else n) x false o) (q4 : ScA sc sd news)
set_option maxHeartbeats 4000000 in
theorem scan_new_ok {w : World} {news : Led} {v tb : Addr} {x n : Int} {t t2 : Tok} :
    GivesU w 589 3 [.ref v, .ref tb, .int x t, .int n t2, .bool false] news (ScNR v tb x n news) := (by exact qz : Qz _ (by
  k_with "m_val" => exact ⟨_, _, _, rfl, rfl, by first | rw [if_pos (by assumption)]; exact ⟨_, _, _, _, _, _, _, _, _, _, _, _, _, _, _, _, _, _, _, _, _, _, rfl⟩ | rw [if_neg (by assumption)]; exact ⟨_, _, _, _, _, _, _, _, _, _, _, _, _, _, _, _, _, _, _, _, _, _, rfl⟩, ⟨by assumption, by assumption⟩⟩
  constructor
  intro pF loF meF mgF mbF dp un gd cnF csF aF cdF clF outer A₀ base h₀ LF mF sF QF EF B F X N T hk hd hu hret
  k_dflt (refine' call_cls ?k1 ?k2 ?k3 ?k4 ?k5 ?k6 ?_; (case k1 => exact F); (case k2 => exact X); (case k3 => exact N); (case k4 => k_is); (case k5 => k_is); (case k6 => k_is); k_whole; clear F N; intro x9 d9 h9 F N l1 l2; (try k_lt l1); (try k_lt2 l2))
  k_dflt (refine' code_defK ([(Str.ofString "self", .ref x9), (Str.ofString "view", .ref v), (Str.ofString "table", .ref tb), (Str.ofString "place", .int x t), (Str.ofString "depth", .int n t2), (Str.ofString "is_expression", .bool false)]).reverse ?k1 ?k2 ?k3 ?k4 ?k5 ?kA ?kF ?kK ?k6 ?k7 ?k8 ?k9 ?kB ?_ ?c2 ?c3 ?c4 ?c5; (case kA => exact rfl); (case kF => exact rfl); (case kK => exact hk); (case k1 => exact B); (case k2 => exact F); (case k3 => exact X); (case k4 => exact N); (case k5 => exact T); (case k6 => k_is); (case k7 => k_is); (case k8 => ktr_room); (case k9 => first | exact BindsTo.of_eq rfl | exact binds_K (by k_in) rfl (by k_is) rfl rfl rfl); (case c5 => decide); (case kB => exact locs (by kernel_rfl!)); (case c2 => exact rfl); (case c3 => exact rfl); (case c4 => exact rfl); k_whole; intro g' L' h' FG' F' N' B' X' T'; (try dsimp only [List.reverse, List.reverseAux] at F'); (try dsimp only); (try k_fold); (try (show (let ak : Around := _; wpAny _ ak _ _ _ _)); intro ak))
  k_extra "m_steps"))
theorem u51 : True := by
  k_with_none
  k_with "m_om" => (with_reducible first | decide | assumption | ((show @LT.lt Nat _ _ _); first | exact rm_a ‹_› rfl | exact rm_b ‹_› rfl | exact rm_c ‹_› | exact rm_d ‹_› | exact tn_a ‹_› | exact tn_b ‹_› | exact tn_c ‹_› | exact tn_d ‹_› | exact rm_e ‹_› rfl | exact tp_d ‹_› | exact tp_e ‹_› ‹_› | exact tp_h ‹_› | exact tp_v ‹_› | exact tr_a ‹_›) | ((show @LE.le Nat _ _ _); first | exact tn_h ‹_› | exact tp_c ‹_› | exact tp_k ‹_› ‹_› | exact tp_l ‹_› ‹_› ‹_› | exact tp_x ‹_› ‹_› | exact Nat.le_trans ‹_› ‹_›) | ((show @LT.lt Int _ _ _); first | exact tn_m ‹_› | exact tn_n ‹_› | exact tp_p ‹_› ‹_› ‹_› ‹_› | exact tp_q ‹_› ‹_› ‹_› | exact Int.lt_of_toNat_lt ‹_› | exact Int.lt_of_lt_of_le ‹_› ‹_› | exact Int.sub_left_lt_of_lt_add ‹_› | exact tr_b ‹_›) | ((show @LE.le Int _ _ _); first | exact tn_i ‹_› | exact tn_j ‹_› | exact tn_k ‹_› | exact tn_l ‹_› | exact tn_o ‹_› | exact tp_i ‹_› ‹_› | exact tp_a ‹_› ‹_› | exact tp_a1 ‹_› ‹_› | exact tp_b ‹_› | exact tp_r ‹_› ‹_› | exact tp_s ‹_› | exact Int.le_of_lt (Int.not_le.mp ‹_›) | exact Int.sub_nonneg_of_le ‹_› | exact Int.sub_nonneg_of_le (tn_i ‹_›) | exact Int.le_add_of_nonneg_right (Int.natCast_nonneg _)) | ((show @Eq Nat _ _); first | exact tn_s ‹_› | exact tn_t ‹_› | exact (tn_s ‹_›).symm | exact tp_g ‹_› | exact tn_s (Int.not_le.mp ‹_›) | exact tp_u ‹_› | exact tp_j) | ((show @Eq Int _ _); first | exact tn_e ‹_› | exact tn_f ‹_› | exact tn_g ‹_› | exact tp_m ‹_› | exact tp_n ‹_› | exact tp_o ‹_› ‹_› | exact tp_w ‹_› ‹_› | exact tp_y) | exact tp_f ‹_› ‹_› | exact tp_f ‹_› | exact tp_f (Int.not_lt.mp ‹_›) | exact tp_t ‹_› ‹_› | exact Nat.ne_of_gt ‹_› | exact Nat.ne_of_lt ‹_› | exact Nat.ne_of_gt (Nat.lt_trans ‹_› ‹_›))
  k_with "m_steps" => (repeat' (first | ((first | (k_unfold) | fail); (try dsimp only)) | (first | (k_extra "m_ret") | fail) | (first | (walk1) | fail) | (dsimp only; (first | (walk1) | fail)) | fail "no step"))
  k_with "m_ret" => ((with_reducible refine' hret _ _ _ _ ?_ ?e2 ?e3); (case e2 => k_asm); (case e3 => k_asm); (try k_extra "m_val"))
  k_with "m_look" => (first | k_dflt (exact rfl) | repeat (first | with_reducible exact look_here | with_reducible exact look_ithere | with_reducible refine Eq.trans (look_next (by k_extra "m_ne")) ?_ | with_reducible refine Eq.trans (look_itnext (by k_extra "m_ne")) ?_ | with_reducible refine Eq.trans (look_off (by k_extra "m_off")) ?_ | with_reducible refine Eq.trans look_nil ?_ | assumption | fail "m_look"))
  k_with "m_kind" => (first | kernel_rfl! | k_dflt (exact rfl) | repeat (first | with_reducible exact kind_here | with_reducible refine Eq.trans (kind_next (by k_extra "m_ne")) ?_ | fail "m_kind"))
  k_with "m_name" => (first | (with_reducible refine' ldK ?k1 ?k4 ?k2 ?k5 ?_; (case k4 => k_extra "m_kind"); (case k1 => first | assumption | k_dflt assumption); (case k2 => k_extra "m_look"); (case k5 => simp only [ne_eq, String.reduceEq, not_false_eq_true])) | fail)
  trivial
inductive LispR (x : Str) (t : Tok) (lst : Addr) (news : Led) (r : Value) (n' : Led) : Prop where
  | mk (e tp dx : Addr) (od : Obj) (q1 : r = .ref e) (q2 : n' = (e, exO 129 tp (some dx) #[]) :: (dx, od) :: news) (q3 : NsO od (excM x t lst)) (q4 : ∀ q ∈ (dx, od) :: news, q.1 ≠ e) (q5 : ∀ q ∈ news, q.1 ≠ dx)
theorem lk_symbol : typeLookup (.type "Exception") "symbol" = pure none := by rw [typeLookup_type, builtinLookup_eq_fast]; kernel_rfl
theorem lk_data : typeLookup (.type "Exception") "data" = pure none := by rw [typeLookup_type, builtinLookup_eq_fast]; kernel_rfl
theorem ns_ok {K : Frag} {N : Addr} {es : Array DictEntry} {ep : Nat} {c : Value} {d : Option Addr} {sl : Array (Option Value)} (h : K.lookup N = some ⟨c, d, .dict es ep, sl⟩) (e : (es.all fun e => match e.key with | .str _ _ => true | _ => false) = true) : nsOkIn K N = true := by
  unfold nsOkIn
  rw [h]
  exact e
theorem exc129 {w : World} : ∃ N, ExcK (Mine.T.heap_1 w.params) 129 N 126 :=
  ⟨_, ⟨⟨_, _, _, _, _, _, _, _, _, _, _, _, _, by k_is⟩, ns_ok (by k_is) (by simp), by k_is, by k_is, by k_is, by k_is, by k_is, by k_is, by k_is⟩⟩
set_option maxHeartbeats 4000000 in
theorem exc_new_ok {w : World} {news : Led} {x : Str} {t : Tok} {lst : Addr} :
    GivesU w 129 3 [.str x t, .ref lst] news (LispR x t lst news) := (by exact qz : Qz _ (by
  obtain ⟨Nc, Y⟩ := @exc129 w
  constructor
  intro pF loF meF mgF mbF dp un gd cnF csF aF cdF clF outer A₀ base h₀ LF mF sF QF EF B F X N T hk hd hu hret
  refine exc_make Y F X N (fun e tp h9 F9 N9 hne => ?_)
  clear F N
  have F := F9
  have N := N9
  clear F9 N9
  k_with "m_setx" => k_dflt (first | (refine' exc_set1 ?Y ?s1 lk_symbol ?F ?X ?N ?hne ?_; (case Y => assumption); (case s1 => exact Y.sy); (case F => assumption); (case X => assumption); (case N => assumption); (case hne => assumption); intro h9 dx9 od9 tk9 F9 N9 hod9 hd9 hde9; (try k_sweep); (try dsimp only); (try k_fold)) | fail)
  k_with "m_setx" => k_dflt (first | (refine' exc_set2 (hw := ?hw) (hsz := ?hz) ?Y ?s1 lk_data ?F ?X ?N ?hne ?hnd ?hde ?hod ?_; (case Y => assumption); (case s1 => exact Y.da); (case F => assumption); (case X => assumption); (case N => assumption); (case hne => assumption); (case hnd => assumption); (case hde => assumption); (case hod => assumption); (case hw => exact Within.cons _ _ Within.nil); (case hz => size_fits); intro h9 od8 tk9 F9 N9 hod8; (try k_sweep); (try dsimp only); (try k_fold)) | fail)
  k_with "m_val" => exact ⟨_, _, _, _, rfl, rfl, hod8, List.forall_mem_cons.mpr ⟨hde9, hne⟩, hd9⟩
  refine wpAny_call ?_
  k_dflt (refine' code_defK ([(Str.ofString "self", .ref e), (Str.ofString "symbol", .str x t), (Str.ofString "data", .ref lst)]).reverse ?k1 ?k2 ?k3 ?k4 ?k5 ?kA ?kF ?kK ?k6 ?k7 ?k8 ?k9 ?kB ?_ ?c2 ?c3 ?c4 ?c5; (case kA => exact rfl); (case kF => exact rfl); (case kK => exact hk); (case k1 => exact B); (case k2 => exact F); (case k3 => exact X); (case k4 => exact N); (case k5 => exact T); (case k6 => k_is); (case k7 => k_is); (case k8 => ktr_room); (case k9 => first | exact BindsTo.of_eq rfl | exact binds_K (by k_in) rfl (by k_is) rfl rfl rfl); (case c5 => decide); (case kB => exact locs (by kernel_rfl!)); (case c2 => exact rfl); (case c3 => exact rfl); (case c4 => exact rfl); k_whole; intro g' L' h' FG' F' N' B' X' T'; (try dsimp only [List.reverse, List.reverseAux] at F'); (try dsimp only); (try k_fold); (try (show (let ak : Around := _; wpAny _ ak _ _ _ _)); intro ak))
  k_extra "m_steps"))
theorem u52 : True := by
  k_with_none
  k_with "m_om" => (with_reducible first | decide | assumption | ((show @LT.lt Nat _ _ _); first | exact rm_a ‹_› rfl | exact rm_b ‹_› rfl | exact rm_c ‹_› | exact rm_d ‹_› | exact tn_a ‹_› | exact tn_b ‹_› | exact tn_c ‹_› | exact tn_d ‹_› | exact rm_e ‹_› rfl | exact tp_d ‹_› | exact tp_e ‹_› ‹_› | exact tp_h ‹_› | exact tp_v ‹_› | exact tr_a ‹_›) | ((show @LE.le Nat _ _ _); first | exact tn_h ‹_› | exact tp_c ‹_› | exact tp_k ‹_› ‹_› | exact tp_l ‹_› ‹_› ‹_› | exact tp_x ‹_› ‹_› | exact Nat.le_trans ‹_› ‹_›) | ((show @LT.lt Int _ _ _); first | exact tn_m ‹_› | exact tn_n ‹_› | exact tp_p ‹_› ‹_› ‹_› ‹_› | exact tp_q ‹_› ‹_› ‹_› | exact Int.lt_of_toNat_lt ‹_› | exact Int.lt_of_lt_of_le ‹_› ‹_› | exact Int.sub_left_lt_of_lt_add ‹_› | exact tr_b ‹_›) | ((show @LE.le Int _ _ _); first | exact tn_i ‹_› | exact tn_j ‹_› | exact tn_k ‹_› | exact tn_l ‹_› | exact tn_o ‹_› | exact tp_i ‹_› ‹_› | exact tp_a ‹_› ‹_› | exact tp_a1 ‹_› ‹_› | exact tp_b ‹_› | exact tp_r ‹_› ‹_› | exact tp_s ‹_› | exact Int.le_of_lt (Int.not_le.mp ‹_›) | exact Int.sub_nonneg_of_le ‹_› | exact Int.sub_nonneg_of_le (tn_i ‹_›) | exact Int.le_add_of_nonneg_right (Int.natCast_nonneg _)) | ((show @Eq Nat _ _); first | exact tn_s ‹_› | exact tn_t ‹_› | exact (tn_s ‹_›).symm | exact tp_g ‹_› | exact tn_s (Int.not_le.mp ‹_›) | exact tp_u ‹_› | exact tp_j) | ((show @Eq Int _ _); first | exact tn_e ‹_› | exact tn_f ‹_› | exact tn_g ‹_› | exact tp_m ‹_› | exact tp_n ‹_› | exact tp_o ‹_› ‹_› | exact tp_w ‹_› ‹_› | exact tp_y) | exact tp_f ‹_› ‹_› | exact tp_f ‹_› | exact tp_f (Int.not_lt.mp ‹_›) | exact tp_t ‹_› ‹_› | exact Nat.ne_of_gt ‹_› | exact Nat.ne_of_lt ‹_› | exact Nat.ne_of_gt (Nat.lt_trans ‹_› ‹_›))
  k_with "m_sd1" => ((case k1 | k2 | k3 | k4 | k5 => assumption))
  k_with "m_sd2" => ((case kK => first | exact rfl | assumption); (case kd => first | (dsimp only [ktrTop, Around.deeper]; omega) | ktr_room); (case ku => first | (dsimp only [ktrTop, Around.deeper]; omega) | ktr_units))
  k_with "m_steps" => (repeat' (first | ((first | (k_unfold) | fail); (try dsimp only)) | (first | (k_extra "m_ret") | fail) | (first | (walk1) | fail) | (dsimp only; (first | (walk1) | fail)) | fail "no step"))
  k_with "m_call" => k_dflt ((first | (refine' GivesU.useM ?G ?k1 ?k2 ?k3 ?k4 ?k5 ?kK ?kd ?ku ?_; k_extra "m_sd1"; (case G => k_extra "m_conU"); k_extra "m_sd2"; intro r9 news9 h9 tk9 hR9 F9 N9; (try k_sweep); k_extra "m_openU" <;> ((try dsimp only); (try k_fold))) | fail))
  k_with "m_ne" => ((with_reducible refine ofs_ne ?_); simp only [ne_eq, String.reduceEq, not_false_eq_true]; done)
  k_with "m_look" => (first | k_dflt (exact rfl) | repeat (first | with_reducible exact look_here | with_reducible exact look_ithere | with_reducible refine Eq.trans (look_next (by k_extra "m_ne")) ?_ | with_reducible refine Eq.trans (look_itnext (by k_extra "m_ne")) ?_ | with_reducible refine Eq.trans (look_off (by k_extra "m_off")) ?_ | with_reducible refine Eq.trans look_nil ?_ | assumption | fail "m_look"))
  k_with "m_kind" => (first | kernel_rfl! | k_dflt (exact rfl) | repeat (first | with_reducible exact kind_here | with_reducible refine Eq.trans (kind_next (by k_extra "m_ne")) ?_ | fail "m_kind"))
  k_with "m_ev" => (with_reducible refine' ev_name ?k0 ?k1 ?k2 ?k5 ?k3 ?k6; (case k5 => k_extra "m_kind"); (case k0 => first | assumption | k_dflt assumption); (case k1 => assumption); (case k2 => assumption); (case k3 => k_dflt k_is); (case k6 => simp only [ne_eq, String.reduceEq, not_false_eq_true]))
  k_with "m_ev" => (with_reducible refine' ev_ld ?k1 ?k4 ?k2 ?k5; (case k4 => k_extra "m_kind"); (case k1 => first | assumption | k_dflt assumption); (case k2 => k_extra "m_look"); (case k5 => simp only [ne_eq, String.reduceEq, not_false_eq_true]))
  k_with "m_spl" => (with_reducible refine' args_ev ?zv1 ?_; (case zv1 => k_extra "m_ev"))
  k_with "m_att" => (with_reducible refine' attr_ev ?zv1 ?_; (case zv1 => k_extra "m_ev"))
  k_with "m_cal" => (with_reducible refine' call_ev ?zv1 ?_; (case zv1 => k_extra "m_ev"))
  k_with "m_sub" => (intro q9 h9; repeat' (first | exact h9 | refine List.mem_append_left _ ?_ | refine List.mem_cons_of_mem _ ?_))
  k_with "m_conU" => ((with_reducible show GivesU _ 129 _ _ _ _); exact exc_new_ok)
  k_with "m_raise" => k_dflt (first | (obtain ⟨Nc9, Y9⟩ := @exc129 w; refine' raise_K Y9 ?hh ?_; (case hh => rfl); (try k_fold)) | fail)
  k_with "m_raised" => k_dflt (first | ((rename Fr _ _ _ _ => lF); (rename News _ _ _ _ => lN); (have hX9 : (Mine.T.heap_1 w.params).In _ := Frag.In.keeps (by assumption) lF.keep); refine ⟨_, _, _, _, rfl, hX9, (lN _ (.head _)).1, rfl, ?_⟩) | fail)
  k_with "m_leave" => k_dflt (first | ((rename Fr _ _ _ _ => lF); (rename News _ _ _ _ => lN); refine' leave_new ?hK lF (fun q9 hq9 => lN q9 (.tail _ hq9)) rfl rfl (lN _ (.head _)).1 rfl (lN _ (.head _)).2.2 ?hn ?_; (case hK => assumption); (case hn => assumption); intro h8 R8 U8; k_extra "m_esc") | fail)
  trivial
noncomputable abbrev sUnb : Str := Str.ofString "Unbalanced parentheses"
noncomputable abbrev sEnds : Str := Str.ofString "Containing expression ends prematurely"
set_option maxHeartbeats 4000000 in
theorem lost_ok {w : World} {news : Led} {o : Obj} {sc sd v tb : Addr} {p d l g : Int} {b : Bool} (ho : ScIn v tb p d l g b o) (hA : ScA sc sd news) :
    GivesR w 565 5 [.ref sc] (scL o sc sd news) news (fun _ _ => False) (fun msg g' n' => msg = sUnb ∧ g' = g ∧ n' = p) := (by exact qz : Qz _ (by
  obtain ⟨l1, l2⟩ := hA
  obtain ⟨s1, s2, s3, s4, s5, s6, s7, s8, s9, u1, u2, u3, u4, u5, u6, u7, u8, u9, up, ud, ul, ug, rfl⟩ := ho
  k_with "m_openU" => (rcases hR9 with ⟨e9, tp9, dx9, od9, rfl, rfl, hod9, hne9, hnd9⟩)
  k_with "m_esc" => exact hesc _ _ _ _ _ _ _ _ _ ⟨rfl, rfl, rfl⟩ ⟨_, _, _, _, _, _, _, .head _, hod9, .tail _ (.head _)⟩ (by k_extra "m_sub") (by assumption) R8 U8
  constructor
  intro pF loF meF mgF mbF dp un gd cnF csF aF cdF clF outer A₀ base h₀ LF mF sF QF EF B F X N T hk hd hu hret hesc
  refine wpAny_call ?_
  k_dflt (refine' code_defK ([(Str.ofString "self", .ref sc)]).reverse ?k1 ?k2 ?k3 ?k4 ?k5 ?kA ?kF ?kK ?k6 ?k7 ?k8 ?k9 ?kB ?_ ?c2 ?c3 ?c4 ?c5; (case kA => exact rfl); (case kF => exact rfl); (case kK => exact hk); (case k1 => exact B); (case k2 => exact F); (case k3 => exact X); (case k4 => exact N); (case k5 => exact T); (case k6 => k_is); (case k7 => k_is); (case k8 => ktr_room); (case k9 => first | exact BindsTo.of_eq rfl | exact binds_K (by k_in) rfl (by k_is) rfl rfl rfl); (case c5 => decide); (case kB => exact locs (by kernel_rfl!)); (case c2 => exact rfl); (case c3 => exact rfl); (case c4 => exact rfl); k_whole; intro g' L' h' FG' F' N' B' X' T'; (try dsimp only [List.reverse, List.reverseAux] at F'); (try dsimp only); (try k_fold); (try (show (let ak : Around := _; wpAny _ ak _ _ _ _)); intro ak))
  k_extra "m_steps"))
theorem u53 : True := by
  k_with_none
  k_with "m_om" => (with_reducible first | decide | assumption | ((show @LT.lt Nat _ _ _); first | exact rm_a ‹_› rfl | exact rm_b ‹_› rfl | exact rm_c ‹_› | exact rm_d ‹_› | exact tn_a ‹_› | exact tn_b ‹_› | exact tn_c ‹_› | exact tn_d ‹_› | exact rm_e ‹_› rfl | exact tp_d ‹_› | exact tp_e ‹_› ‹_› | exact tp_h ‹_› | exact tp_v ‹_› | exact tr_a ‹_›) | ((show @LE.le Nat _ _ _); first | exact tn_h ‹_› | exact tp_c ‹_› | exact tp_k ‹_› ‹_› | exact tp_l ‹_› ‹_› ‹_› | exact tp_x ‹_› ‹_› | exact Nat.le_trans ‹_› ‹_›) | ((show @LT.lt Int _ _ _); first | exact tn_m ‹_› | exact tn_n ‹_› | exact tp_p ‹_› ‹_› ‹_› ‹_› | exact tp_q ‹_› ‹_› ‹_› | exact Int.lt_of_toNat_lt ‹_› | exact Int.lt_of_lt_of_le ‹_› ‹_› | exact Int.sub_left_lt_of_lt_add ‹_› | exact tr_b ‹_›) | ((show @LE.le Int _ _ _); first | exact tn_i ‹_› | exact tn_j ‹_› | exact tn_k ‹_› | exact tn_l ‹_› | exact tn_o ‹_› | exact tp_i ‹_› ‹_› | exact tp_a ‹_› ‹_› | exact tp_a1 ‹_› ‹_› | exact tp_b ‹_› | exact tp_r ‹_› ‹_› | exact tp_s ‹_› | exact Int.le_of_lt (Int.not_le.mp ‹_›) | exact Int.sub_nonneg_of_le ‹_› | exact Int.sub_nonneg_of_le (tn_i ‹_›) | exact Int.le_add_of_nonneg_right (Int.natCast_nonneg _)) | ((show @Eq Nat _ _); first | exact tn_s ‹_› | exact tn_t ‹_› | exact (tn_s ‹_›).symm | exact tp_g ‹_› | exact tn_s (Int.not_le.mp ‹_›) | exact tp_u ‹_› | exact tp_j) | ((show @Eq Int _ _); first | exact tn_e ‹_› | exact tn_f ‹_› | exact tn_g ‹_› | exact tp_m ‹_› | exact tp_n ‹_› | exact tp_o ‹_› ‹_› | exact tp_w ‹_› ‹_› | exact tp_y) | exact tp_f ‹_› ‹_› | exact tp_f ‹_› | exact tp_f (Int.not_lt.mp ‹_›) | exact tp_t ‹_› ‹_› | exact Nat.ne_of_gt ‹_› | exact Nat.ne_of_lt ‹_› | exact Nat.ne_of_gt (Nat.lt_trans ‹_› ‹_›))
  k_with "m_sd1" => ((case k1 | k2 | k3 | k4 | k5 => assumption))
  k_with "m_sd2" => ((case kK => first | exact rfl | assumption); (case kd => first | (dsimp only [ktrTop, Around.deeper]; omega) | ktr_room); (case ku => first | (dsimp only [ktrTop, Around.deeper]; omega) | ktr_units))
  k_with "m_steps" => (repeat' (first | ((first | (k_unfold) | fail); (try dsimp only)) | (first | (k_extra "m_ret") | fail) | (first | (walk1) | fail) | (dsimp only; (first | (walk1) | fail)) | fail "no step"))
  k_with "m_ret" => ((with_reducible refine' hret _ _ _ _ ?_ ?e2 ?e3); (case e2 => k_asm); (case e3 => k_asm); (try k_extra "m_val"))
  k_with "m_ret" => ((with_reducible refine' hret _ _ _ ?_ ?e2 ?e3); (case e2 => k_asm); (case e3 => first | k_asm | exact cb_drop (by assumption) (by k_extra "m_sub")); (try k_extra "m_val"))
  k_with "m_call" => k_dflt ((first | (refine' GivesU.useM ?G ?k1 ?k2 ?k3 ?k4 ?k5 ?kK ?kd ?ku ?_; k_extra "m_sd1"; (case G => k_extra "m_conU"); k_extra "m_sd2"; intro r9 news9 h9 tk9 hR9 F9 N9; (try k_sweep); k_extra "m_openU" <;> ((try dsimp only); (try k_fold))) | fail))
  k_with "m_ne" => ((with_reducible refine ofs_ne ?_); simp only [ne_eq, String.reduceEq, not_false_eq_true]; done)
  k_with "m_look" => (first | k_dflt (exact rfl) | repeat (first | with_reducible exact look_here | with_reducible exact look_ithere | with_reducible refine Eq.trans (look_next (by k_extra "m_ne")) ?_ | with_reducible refine Eq.trans (look_itnext (by k_extra "m_ne")) ?_ | with_reducible refine Eq.trans (look_off (by k_extra "m_off")) ?_ | with_reducible refine Eq.trans look_nil ?_ | assumption | fail "m_look"))
  k_with "m_kind" => (first | kernel_rfl! | k_dflt (exact rfl) | repeat (first | with_reducible exact kind_here | with_reducible refine Eq.trans (kind_next (by k_extra "m_ne")) ?_ | fail "m_kind"))
  k_with "m_name" => (first | (with_reducible refine' ldK ?k1 ?k4 ?k2 ?k5 ?_; (case k4 => k_extra "m_kind"); (case k1 => first | assumption | k_dflt assumption); (case k2 => k_extra "m_look"); (case k5 => simp only [ne_eq, String.reduceEq, not_false_eq_true])) | fail)
  k_with "m_ev" => (with_reducible refine' ev_name ?k0 ?k1 ?k2 ?k5 ?k3 ?k6; (case k5 => k_extra "m_kind"); (case k0 => first | assumption | k_dflt assumption); (case k1 => assumption); (case k2 => assumption); (case k3 => k_dflt k_is); (case k6 => simp only [ne_eq, String.reduceEq, not_false_eq_true]))
  k_with "m_ev" => (with_reducible refine' ev_ld ?k1 ?k4 ?k2 ?k5; (case k4 => k_extra "m_kind"); (case k1 => first | assumption | k_dflt assumption); (case k2 => k_extra "m_look"); (case k5 => simp only [ne_eq, String.reduceEq, not_false_eq_true]))
  k_with "m_spl" => (with_reducible refine' args_ev ?zv1 ?_; (case zv1 => k_extra "m_ev"))
  k_with "m_spl" => (with_reducible first | (refine' args_ev1 ?zv1 ?_; (case zv1 => k_extra "m_ev")) | (refine' args_ev2 ?zv1 ?zv2 ?_; (case zv1 => k_extra "m_ev"); (case zv2 => k_extra "m_ev")) | (refine' args_ev3 ?zv1 ?zv2 ?zv3 ?_; (case zv1 => k_extra "m_ev"); (case zv2 => k_extra "m_ev"); (case zv3 => k_extra "m_ev")) | (refine' args_ev4 ?zv1 ?zv2 ?zv3 ?zv4 ?_; (case zv1 => k_extra "m_ev"); (case zv2 => k_extra "m_ev"); (case zv3 => k_extra "m_ev"); (case zv4 => k_extra "m_ev")))
  k_with "m_att" => (with_reducible refine' attr_ev ?zv1 ?_; (case zv1 => k_extra "m_ev"))
  k_with "m_cal" => (with_reducible refine' call_ev ?zv1 ?_; (case zv1 => k_extra "m_ev"))
  k_with "m_ite" => (first | with_reducible refine ite_tt ?_ | with_reducible refine ite_ff ?_ | (with_reducible refine dec_pos ?c ?_; (case c => omega)) | (with_reducible refine dec_neg ?c ?_; (case c => omega)) | (with_reducible refine ine_pos ?c ?_; (case c => omega)) | (with_reducible refine ine_neg ?c ?_; (case c => omega)) | (with_reducible refine ieq_pos ?c ?_; (case c => omega)) | (with_reducible refine ieq_neg ?c ?_; (case c => omega)) | (with_reducible refine split_dec ?_ ?_ <;> intro _) | (with_reducible refine split_ine ?_ ?_ <;> intro _) | (with_reducible refine split_ieq ?_ ?_ <;> intro _))
  k_with "m_sub" => (intro q9 h9; repeat' (first | exact h9 | refine List.mem_append_left _ ?_ | refine List.mem_cons_of_mem _ ?_))
  k_with "m_conU" => ((with_reducible show GivesU _ 129 _ _ _ _); exact exc_new_ok)
  k_with "m_raise" => k_dflt (first | (obtain ⟨Nc9, Y9⟩ := @exc129 w; refine' raise_K Y9 ?hh ?_; (case hh => rfl); (try k_fold)) | fail)
  k_with "m_raised" => k_dflt (first | ((rename Fr _ _ _ _ => lF); (rename News _ _ _ _ => lN); (have hX9 : (Mine.T.heap_1 w.params).In _ := Frag.In.keeps (by assumption) lF.keep); refine ⟨_, _, _, _, rfl, hX9, (lN _ (.head _)).1, rfl, ?_⟩) | fail)
  k_with "m_leave" => k_dflt (first | ((rename Fr _ _ _ _ => lF); (rename News _ _ _ _ => lN); refine' leave_new ?hK lF (fun q9 hq9 => lN q9 (.tail _ hq9)) rfl rfl (lN _ (.head _)).1 rfl (lN _ (.head _)).2.2 ?hn ?_; (case hK => assumption); (case hn => assumption); intro h8 R8 U8; k_extra "m_esc") | fail)
  trivial
set_option maxHeartbeats 4000000 in
theorem counts_ok {w : World} {news : Led} {o : Obj} {sc sd v tb : Addr} {p d l g : Int} {b : Bool} (ho : ScIn v tb p d l g b o) :
    Gives w 558 1 [.ref sc] (scL o sc sd news) (fun r => r = .bool false) := (by exact qz : Qz _ (by
  obtain ⟨s1, s2, s3, s4, s5, s6, s7, s8, s9, u1, u2, u3, u4, u5, u6, u7, u8, u9, up, ud, ul, ug, rfl⟩ := ho
  k_with "m_val" => rfl
  constructor
  intro pF loF meF mgF mbF dp un gd cnF csF aF cdF clF outer A₀ base h₀ LF mF sF QF EF B F X N T hk hd hu hret
  refine wpAny_call ?_
  k_dflt (refine' code_defK ([(Str.ofString "self", .ref sc)]).reverse ?k1 ?k2 ?k3 ?k4 ?k5 ?kA ?kF ?kK ?k6 ?k7 ?k8 ?k9 ?kB ?_ ?c2 ?c3 ?c4 ?c5; (case kA => exact rfl); (case kF => exact rfl); (case kK => exact hk); (case k1 => exact B); (case k2 => exact F); (case k3 => exact X); (case k4 => exact N); (case k5 => exact T); (case k6 => k_is); (case k7 => k_is); (case k8 => ktr_room); (case k9 => first | exact BindsTo.of_eq rfl | exact binds_K (by k_in) rfl (by k_is) rfl rfl rfl); (case c5 => decide); (case kB => exact locs (by kernel_rfl!)); (case c2 => exact rfl); (case c3 => exact rfl); (case c4 => exact rfl); k_whole; intro g' L' h' FG' F' N' B' X' T'; (try dsimp only [List.reverse, List.reverseAux] at F'); (try dsimp only); (try k_fold); (try (show (let ak : Around := _; wpAny _ ak _ _ _ _)); intro ak))
  k_extra "m_steps"))
set_option maxHeartbeats 4000000 in
theorem deeper_ok {w : World} {news : Led} {o : Obj} {sc sd v tb : Addr} {p d l g : Int} {b : Bool} (ho : ScIn v tb p d l g b o) (hA : ScA sc sd news) :
    GivesU w 572 1 [.ref sc] (scL o sc sd news) (ScR sc sd v tb p (d + 1) l g (d + 1 == 0) news) := (by exact qz : Qz _ (by
  obtain ⟨l1, l2⟩ := hA
  obtain ⟨s1, s2, s3, s4, s5, s6, s7, s8, s9, u1, u2, u3, u4, u5, u6, u7, u8, u9, up, ud, ul, ug, rfl⟩ := ho
  k_with "m_val" => exact ⟨rfl, _, rfl, ⟨_, _, _, _, _, _, _, _, _, _, _, _, _, _, _, _, _, _, _, _, _, _, rfl⟩⟩
  constructor
  intro pF loF meF mgF mbF dp un gd cnF csF aF cdF clF outer A₀ base h₀ LF mF sF QF EF B F X N T hk hd hu hret
  refine wpAny_call ?_
  k_dflt (refine' code_defK ([(Str.ofString "self", .ref sc)]).reverse ?k1 ?k2 ?k3 ?k4 ?k5 ?kA ?kF ?kK ?k6 ?k7 ?k8 ?k9 ?kB ?_ ?c2 ?c3 ?c4 ?c5; (case kA => exact rfl); (case kF => exact rfl); (case kK => exact hk); (case k1 => exact B); (case k2 => exact F); (case k3 => exact X); (case k4 => exact N); (case k5 => exact T); (case k6 => k_is); (case k7 => k_is); (case k8 => ktr_room); (case k9 => first | exact BindsTo.of_eq rfl | exact binds_K (by k_in) rfl (by k_is) rfl rfl rfl); (case c5 => decide); (case kB => exact locs (by kernel_rfl!)); (case c2 => exact rfl); (case c3 => exact rfl); (case c4 => exact rfl); k_whole; intro g' L' h' FG' F' N' B' X' T'; (try dsimp only [List.reverse, List.reverseAux] at F'); (try dsimp only); (try k_fold); (try (show (let ak : Around := _; wpAny _ ak _ _ _ _)); intro ak))
  k_extra "m_steps"))
set_option maxHeartbeats 4000000 in
theorem shallower_ok {w : World} {news : Led} {o : Obj} {sc sd v tb : Addr} {p d l g n : Int} {b : Bool} {t : Tok} (ho : ScIn v tb p d l g b o) (hA : ScA sc sd news) :
    GivesR w 579 5 [.ref sc, .int n t] (scL o sc sd news) news (ScRB (¬ d - 1 < l) sc sd v tb p (d - 1) l g (d - 1 == 0) news)
      (fun msg g' n' => msg = sEnds ∧ g' = g ∧ n' = n ∧ d - 1 < l) := (by exact qz : Qz _ (by
  obtain ⟨l1, l2⟩ := hA
  obtain ⟨s1, s2, s3, s4, s5, s6, s7, s8, s9, u1, u2, u3, u4, u5, u6, u7, u8, u9, up, ud, ul, ug, rfl⟩ := ho
  k_with "m_openU" => (rcases hR9 with ⟨e9, tp9, dx9, od9, rfl, rfl, hod9, hne9, hnd9⟩)
  k_with "m_esc" => exact hesc _ _ _ _ _ _ _ _ _ ⟨rfl, rfl, rfl, by assumption⟩ ⟨_, _, _, _, _, _, _, .head _, hod9, .tail _ (.head _)⟩ (by k_extra "m_sub") (by assumption) R8 U8
  k_with "m_val" => exact ⟨by assumption, rfl, _, rfl, ⟨_, _, _, _, _, _, _, _, _, _, _, _, _, _, _, _, _, _, _, _, _, _, rfl⟩⟩
  constructor
  intro pF loF meF mgF mbF dp un gd cnF csF aF cdF clF outer A₀ base h₀ LF mF sF QF EF B F X N T hk hd hu hret hesc
  refine wpAny_call ?_
  k_dflt (refine' code_defK ([(Str.ofString "self", .ref sc), (Str.ofString "end", .int n t)]).reverse ?k1 ?k2 ?k3 ?k4 ?k5 ?kA ?kF ?kK ?k6 ?k7 ?k8 ?k9 ?kB ?_ ?c2 ?c3 ?c4 ?c5; (case kA => exact rfl); (case kF => exact rfl); (case kK => exact hk); (case k1 => exact B); (case k2 => exact F); (case k3 => exact X); (case k4 => exact N); (case k5 => exact T); (case k6 => k_is); (case k7 => k_is); (case k8 => ktr_room); (case k9 => first | exact BindsTo.of_eq rfl | exact binds_K (by k_in) rfl (by k_is) rfl rfl rfl); (case c5 => decide); (case kB => exact locs (by kernel_rfl!)); (case c2 => exact rfl); (case c3 => exact rfl); (case c4 => exact rfl); k_whole; intro g' L' h' FG' F' N' B' X' T'; (try dsimp only [List.reverse, List.reverseAux] at F'); (try dsimp only); (try k_fold); (try (show (let ak : Around := _; wpAny _ ak _ _ _ _)); intro ak))
  k_extra "m_steps"))
theorem u54 : True := by
  k_with_none
  k_with "m_om" => (with_reducible first | decide | assumption | ((show @LT.lt Nat _ _ _); first | exact rm_a ‹_› rfl | exact rm_b ‹_› rfl | exact rm_c ‹_› | exact rm_d ‹_› | exact tn_a ‹_› | exact tn_b ‹_› | exact tn_c ‹_› | exact tn_d ‹_› | exact rm_e ‹_› rfl | exact tp_d ‹_› | exact tp_e ‹_› ‹_› | exact tp_h ‹_› | exact tp_v ‹_› | exact tr_a ‹_›) | ((show @LE.le Nat _ _ _); first | exact tn_h ‹_› | exact tp_c ‹_› | exact tp_k ‹_› ‹_› | exact tp_l ‹_› ‹_› ‹_› | exact tp_x ‹_› ‹_› | exact Nat.le_trans ‹_› ‹_›) | ((show @LT.lt Int _ _ _); first | exact tn_m ‹_› | exact tn_n ‹_› | exact tp_p ‹_› ‹_› ‹_› ‹_› | exact tp_q ‹_› ‹_› ‹_› | exact Int.lt_of_toNat_lt ‹_› | exact Int.lt_of_lt_of_le ‹_› ‹_› | exact Int.sub_left_lt_of_lt_add ‹_› | exact tr_b ‹_›) | ((show @LE.le Int _ _ _); first | exact tn_i ‹_› | exact tn_j ‹_› | exact tn_k ‹_› | exact tn_l ‹_› | exact tn_o ‹_› | exact tp_i ‹_› ‹_› | exact tp_a ‹_› ‹_› | exact tp_a1 ‹_› ‹_› | exact tp_b ‹_› | exact tp_r ‹_› ‹_› | exact tp_s ‹_› | exact Int.le_of_lt (Int.not_le.mp ‹_›) | exact Int.sub_nonneg_of_le ‹_› | exact Int.sub_nonneg_of_le (tn_i ‹_›) | exact Int.le_add_of_nonneg_right (Int.natCast_nonneg _)) | ((show @Eq Nat _ _); first | exact tn_s ‹_› | exact tn_t ‹_› | exact (tn_s ‹_›).symm | exact tp_g ‹_› | exact tn_s (Int.not_le.mp ‹_›) | exact tp_u ‹_› | exact tp_j) | ((show @Eq Int _ _); first | exact tn_e ‹_› | exact tn_f ‹_› | exact tn_g ‹_› | exact tp_m ‹_› | exact tp_n ‹_› | exact tp_o ‹_› ‹_› | exact tp_w ‹_› ‹_› | exact tp_y) | exact tp_f ‹_› ‹_› | exact tp_f ‹_› | exact tp_f (Int.not_lt.mp ‹_›) | exact tp_t ‹_› ‹_› | exact Nat.ne_of_gt ‹_› | exact Nat.ne_of_lt ‹_› | exact Nat.ne_of_gt (Nat.lt_trans ‹_› ‹_›))
  k_with "m_sd1" => ((case k1 | k2 | k3 | k4 | k5 => assumption))
  k_with "m_sd2" => ((case kK => first | exact rfl | assumption); (case kd => first | (dsimp only [ktrTop, Around.deeper]; omega) | ktr_room); (case ku => first | (dsimp only [ktrTop, Around.deeper]; omega) | ktr_units))
  k_with "m_steps" => (repeat' (first | ((first | (k_unfold) | fail); (try dsimp only)) | (first | (k_extra "m_ret") | fail) | (first | (walk1) | fail) | (dsimp only; (first | (walk1) | fail)) | fail "no step"))
  k_with "m_ret" => ((with_reducible refine' hret _ _ _ _ ?_ ?e2 ?e3); (case e2 => k_asm); (case e3 => k_asm); (try k_extra "m_val"))
  k_with "m_call" => k_dflt ((first | (refine' GivesU.useM ?G ?k1 ?k2 ?k3 ?k4 ?k5 ?kK ?kd ?ku ?_; k_extra "m_sd1"; (case G => k_extra "m_conU"); k_extra "m_sd2"; intro r9 news9 h9 tk9 hR9 F9 N9; (try k_sweep); k_extra "m_openU" <;> ((try dsimp only); (try k_fold))) | fail))
  k_with "m_eqs" => ((with_reducible show wpAny _ _ (compareOp CmpOp.Eq (Value.str (Kd.str _) _) (Value.str _ _)) _ _ _); with_reducible first | refine eq_kd (kd_w _) ?_ | refine eq_kd (kd_u _) ?_ | refine eq_kd (kd_o _) ?_ | refine eq_kd (kd_c _) ?_ | refine eq_kd (kd_n1 _) ?_ | refine eq_kd (kd_n2 _) ?_ | refine eq_kd (kd_n3 _) ?_ | refine eq_kd (kd_n4 _) ?_ | refine eq_kd (kd_n5 _) ?_ | refine eq_kd (kd_n6 _) ?_ | refine eq_kd (kd_n7 _) ?_ | refine eq_kd (kd_n8 _) ?_)
  k_with "m_ne" => ((with_reducible refine ofs_ne ?_); simp only [ne_eq, String.reduceEq, not_false_eq_true]; done)
  k_with "m_look" => (first | k_dflt (exact rfl) | repeat (first | with_reducible exact look_here | with_reducible exact look_ithere | with_reducible refine Eq.trans (look_next (by k_extra "m_ne")) ?_ | with_reducible refine Eq.trans (look_itnext (by k_extra "m_ne")) ?_ | with_reducible refine Eq.trans (look_off (by k_extra "m_off")) ?_ | with_reducible refine Eq.trans look_nil ?_ | assumption | fail "m_look"))
  k_with "m_kind" => (first | kernel_rfl! | k_dflt (exact rfl) | repeat (first | with_reducible exact kind_here | with_reducible refine Eq.trans (kind_next (by k_extra "m_ne")) ?_ | fail "m_kind"))
  k_with "m_ev" => (with_reducible refine' ev_name ?k0 ?k1 ?k2 ?k5 ?k3 ?k6; (case k5 => k_extra "m_kind"); (case k0 => first | assumption | k_dflt assumption); (case k1 => assumption); (case k2 => assumption); (case k3 => k_dflt k_is); (case k6 => simp only [ne_eq, String.reduceEq, not_false_eq_true]))
  k_with "m_ev" => (with_reducible refine' ev_ld ?k1 ?k4 ?k2 ?k5; (case k4 => k_extra "m_kind"); (case k1 => first | assumption | k_dflt assumption); (case k2 => k_extra "m_look"); (case k5 => simp only [ne_eq, String.reduceEq, not_false_eq_true]))
  k_with "m_att" => (with_reducible refine' attr_ev ?zv1 ?_; (case zv1 => k_extra "m_ev"))
  k_with "m_cam" => (with_reducible refine' method_ev ?zv1 ?_; (case zv1 => k_extra "m_ev"))
  k_with "m_itc" => (with_reducible (first | (refine' itc_ev2 ?zv1 ?zv2 ?_; (case zv1 => k_extra "m_ev"); (case zv2 => k_extra "m_ev")) | (refine' itc_ei ?zv1 ?_; (case zv1 => k_extra "m_ev")) | (refine' itc_ev ?zv1 ?_; (case zv1 => k_extra "m_ev"))))
  k_with "m_ite" => (first | with_reducible refine ite_tt ?_ | with_reducible refine ite_ff ?_ | (with_reducible refine dec_pos ?c ?_; (case c => omega)) | (with_reducible refine dec_neg ?c ?_; (case c => omega)) | (with_reducible refine ine_pos ?c ?_; (case c => omega)) | (with_reducible refine ine_neg ?c ?_; (case c => omega)) | (with_reducible refine ieq_pos ?c ?_; (case c => omega)) | (with_reducible refine ieq_neg ?c ?_; (case c => omega)) | (with_reducible refine split_dec ?_ ?_ <;> intro _) | (with_reducible refine split_ine ?_ ?_ <;> intro _) | (with_reducible refine split_ieq ?_ ?_ <;> intro _))
  k_with "m_leave" => k_dflt (first | (refine' leave_pass ?hK FG9 rfl R9 U9 ?_; (case hK => assumption); intro h8 R8 U8; k_extra "m_esc") | fail)
  k_with "m_call" => k_dflt (first | (refine' GivesR.useScB ?G ?k1 ?k2 ?k3 ?k4 ?k5 ?kK ?kd ?ku ?_ ?_; k_extra "m_sd1"; (case G => k_extra "m_conR"); k_extra "m_sd2"; rotate_left; (intro e9 dx9 nw9 G9 h9 tk9 msg9 g9 n9 hE9 hS9 hk9 FG9 R9 U9; k_extra "m_openE"); rotate_left; (intro o9 h9 tk9 hb9 ho9 F9 N9; (try k_sweep); (try k_extra "m_openSc"); (try dsimp only); (try k_fold))) | fail)
  k_with "m_openE" => skip
  k_with "m_scin" => first | assumption | exact ⟨_, _, _, _, _, _, _, _, _, _, _, _, _, _, _, _, _, _, _, _, _, _, rfl⟩
  k_with "m_sca" => first | assumption | exact ⟨by assumption, by assumption⟩
  k_with "m_conU" => ((with_reducible show GivesU _ 572 _ _ _ _); exact deeper_ok (by k_extra "m_scin") (by k_extra "m_sca"))
  k_with "m_conR" => ((with_reducible show GivesR _ 579 _ _ _ _ _ _); exact shallower_ok (by k_extra "m_scin") (by k_extra "m_sca"))
  trivial
set_option maxHeartbeats 4000000 in
theorem take_f_ok {w : World} {news : Led} {o : Obj} {sc sd v tb : Addr} {p d l g : Int} {b : Bool} {k : Kd} {t t2 t3 : Tok} (ho : ScIn v tb p d l g b o) (hA : ScA sc sd news) :
    GivesR w 621 6 [.ref sc, .str k.str t, .str (Str.ofString "(") t2, .str (Str.ofString ")") t3] (scL o sc sd news) news (ScRB (¬ badS true k d l) sc sd v tb p (dS true k d) l g (bS true k d b) news)
      (fun msg g' n' => msg = sEnds ∧ g' = g ∧ n' = p ∧ badS true k d l) := (by exact qz : Qz _ (by
  obtain ⟨l1, l2⟩ := hA
  obtain ⟨s1, s2, s3, s4, s5, s6, s7, s8, s9, u1, u2, u3, u4, u5, u6, u7, u8, u9, up, ud, ul, ug, rfl⟩ := ho
  k_with "m_openU" => (rcases hR9 with ⟨rfl, o9, rfl, ho9⟩)
  k_with "m_openU" => (rcases hR9 with ⟨hb9, rfl, o9, rfl, ho9⟩)
  k_with "m_esc" => (first | (rcases hE9 with ⟨rfl, rfl, rfl, hd9⟩; (rename _ = Kd.c => hz9); subst hz9; exact hesc _ _ _ _ _ _ _ _ _ ⟨rfl, rfl, rfl, hd9, rfl⟩ hS9 hk9 (by assumption) R8 U8) | fail)
  k_with "m_val" => (first | ((rename _ = Kd.o => hz9); subst hz9; exact ⟨(fun h => nomatch h.2), rfl, _, rfl, ho9⟩) | fail)
  k_with "m_val" => (first | ((rename _ = Kd.c => hz9); subst hz9; exact ⟨fun h => hb9 h.1, rfl, _, rfl, ho9⟩) | fail)
  k_with "m_val" => (first | (exact ⟨badS_else (by assumption) (by assumption), rfl, _, rfl, by rw [dS_else (by assumption) (by assumption), bS_else (by assumption) (by assumption)]; exact ⟨_, _, _, _, _, _, _, _, _, _, _, _, _, _, _, _, _, _, _, _, _, _, rfl⟩⟩) | fail)
  constructor
  intro pF loF meF mgF mbF dp un gd cnF csF aF cdF clF outer A₀ base h₀ LF mF sF QF EF B F X N T hk hd hu hret hesc
  refine wpAny_call ?_
  k_dflt (refine' code_defK ([(Str.ofString "scan", .ref sc), (Str.ofString "kind", .str k.str t), (Str.ofString "opens", .str (Str.ofString "(") t2), (Str.ofString "closes", .str (Str.ofString ")") t3)]).reverse ?k1 ?k2 ?k3 ?k4 ?k5 ?kA ?kF ?kK ?k6 ?k7 ?k8 ?k9 ?kB ?_ ?c2 ?c3 ?c4 ?c5; (case kA => exact rfl); (case kF => exact rfl); (case kK => exact hk); (case k1 => exact B); (case k2 => exact F); (case k3 => exact X); (case k4 => exact N); (case k5 => exact T); (case k6 => k_is); (case k7 => k_is); (case k8 => ktr_room); (case k9 => first | exact BindsTo.of_eq rfl | exact binds_K (by k_in) rfl (by k_is) rfl rfl rfl); (case c5 => decide); (case kB => exact locs (by kernel_rfl!)); (case c2 => exact rfl); (case c3 => exact rfl); (case c4 => exact rfl); k_whole; intro g' L' h' FG' F' N' B' X' T'; (try dsimp only [List.reverse, List.reverseAux] at F'); (try dsimp only); (try k_fold); (try (show (let ak : Around := _; wpAny _ ak _ _ _ _)); intro ak))
  k_extra "m_steps"))
set_option maxHeartbeats 4000000 in
theorem take_b_ok {w : World} {news : Led} {o : Obj} {sc sd v tb : Addr} {p d l g : Int} {b : Bool} {k : Kd} {t t2 t3 : Tok} (ho : ScIn v tb p d l g b o) (hA : ScA sc sd news) :
    GivesR w 621 6 [.ref sc, .str k.str t, .str (Str.ofString ")") t2, .str (Str.ofString "(") t3] (scL o sc sd news) news (ScRB (¬ badS false k d l) sc sd v tb p (dS false k d) l g (bS false k d b) news)
      (fun msg g' n' => msg = sEnds ∧ g' = g ∧ n' = p ∧ badS false k d l) := (by exact qz : Qz _ (by
  obtain ⟨l1, l2⟩ := hA
  obtain ⟨s1, s2, s3, s4, s5, s6, s7, s8, s9, u1, u2, u3, u4, u5, u6, u7, u8, u9, up, ud, ul, ug, rfl⟩ := ho
  k_with "m_openU" => (rcases hR9 with ⟨rfl, o9, rfl, ho9⟩)
  k_with "m_openU" => (rcases hR9 with ⟨hb9, rfl, o9, rfl, ho9⟩)
  k_with "m_esc" => (first | (rcases hE9 with ⟨rfl, rfl, rfl, hd9⟩; (rename _ = Kd.o => hz9); subst hz9; exact hesc _ _ _ _ _ _ _ _ _ ⟨rfl, rfl, rfl, hd9, rfl⟩ hS9 hk9 (by assumption) R8 U8) | fail)
  k_with "m_val" => (first | ((rename _ = Kd.c => hz9); subst hz9; exact ⟨(fun h => nomatch h.2), rfl, _, rfl, ho9⟩) | fail)
  k_with "m_val" => (first | ((rename _ = Kd.o => hz9); subst hz9; exact ⟨fun h => hb9 h.1, rfl, _, rfl, ho9⟩) | fail)
  k_with "m_val" => (first | (exact ⟨badS_else (by assumption) (by assumption), rfl, _, rfl, by rw [dS_else (by assumption) (by assumption), bS_else (by assumption) (by assumption)]; exact ⟨_, _, _, _, _, _, _, _, _, _, _, _, _, _, _, _, _, _, _, _, _, _, rfl⟩⟩) | fail)
  constructor
  intro pF loF meF mgF mbF dp un gd cnF csF aF cdF clF outer A₀ base h₀ LF mF sF QF EF B F X N T hk hd hu hret hesc
  refine wpAny_call ?_
  k_dflt (refine' code_defK ([(Str.ofString "scan", .ref sc), (Str.ofString "kind", .str k.str t), (Str.ofString "opens", .str (Str.ofString ")") t2), (Str.ofString "closes", .str (Str.ofString "(") t3)]).reverse ?k1 ?k2 ?k3 ?k4 ?k5 ?kA ?kF ?kK ?k6 ?k7 ?k8 ?k9 ?kB ?_ ?c2 ?c3 ?c4 ?c5; (case kA => exact rfl); (case kF => exact rfl); (case kK => exact hk); (case k1 => exact B); (case k2 => exact F); (case k3 => exact X); (case k4 => exact N); (case k5 => exact T); (case k6 => k_is); (case k7 => k_is); (case k8 => ktr_room); (case k9 => first | exact BindsTo.of_eq rfl | exact binds_K (by k_in) rfl (by k_is) rfl rfl rfl); (case c5 => decide); (case kB => exact locs (by kernel_rfl!)); (case c2 => exact rfl); (case c3 => exact rfl); (case c4 => exact rfl); k_whole; intro g' L' h' FG' F' N' B' X' T'; (try dsimp only [List.reverse, List.reverseAux] at F'); (try dsimp only); (try k_fold); (try (show (let ak : Around := _; wpAny _ ak _ _ _ _)); intro ak))
  k_extra "m_steps"))
theorem u55 : True := by
  k_with_none
  k_with "m_om" => (with_reducible first | decide | assumption | ((show @LT.lt Nat _ _ _); first | exact rm_a ‹_› rfl | exact rm_b ‹_› rfl | exact rm_c ‹_› | exact rm_d ‹_› | exact tn_a ‹_› | exact tn_b ‹_› | exact tn_c ‹_› | exact tn_d ‹_› | exact rm_e ‹_› rfl | exact tp_d ‹_› | exact tp_e ‹_› ‹_› | exact tp_h ‹_› | exact tp_v ‹_› | exact tr_a ‹_›) | ((show @LE.le Nat _ _ _); first | exact tn_h ‹_› | exact tp_c ‹_› | exact tp_k ‹_› ‹_› | exact tp_l ‹_› ‹_› ‹_› | exact tp_x ‹_› ‹_› | exact Nat.le_trans ‹_› ‹_›) | ((show @LT.lt Int _ _ _); first | exact tn_m ‹_› | exact tn_n ‹_› | exact tp_p ‹_› ‹_› ‹_› ‹_› | exact tp_q ‹_› ‹_› ‹_› | exact Int.lt_of_toNat_lt ‹_› | exact Int.lt_of_lt_of_le ‹_› ‹_› | exact Int.sub_left_lt_of_lt_add ‹_› | exact tr_b ‹_›) | ((show @LE.le Int _ _ _); first | exact tn_i ‹_› | exact tn_j ‹_› | exact tn_k ‹_› | exact tn_l ‹_› | exact tn_o ‹_› | exact tp_i ‹_› ‹_› | exact tp_a ‹_› ‹_› | exact tp_a1 ‹_› ‹_› | exact tp_b ‹_› | exact tp_r ‹_› ‹_› | exact tp_s ‹_› | exact Int.le_of_lt (Int.not_le.mp ‹_›) | exact Int.sub_nonneg_of_le ‹_› | exact Int.sub_nonneg_of_le (tn_i ‹_›) | exact Int.le_add_of_nonneg_right (Int.natCast_nonneg _)) | ((show @Eq Nat _ _); first | exact tn_s ‹_› | exact tn_t ‹_› | exact (tn_s ‹_›).symm | exact tp_g ‹_› | exact tn_s (Int.not_le.mp ‹_›) | exact tp_u ‹_› | exact tp_j) | ((show @Eq Int _ _); first | exact tn_e ‹_› | exact tn_f ‹_› | exact tn_g ‹_› | exact tp_m ‹_› | exact tp_n ‹_› | exact tp_o ‹_› ‹_› | exact tp_w ‹_› ‹_› | exact tp_y) | exact tp_f ‹_› ‹_› | exact tp_f ‹_› | exact tp_f (Int.not_lt.mp ‹_›) | exact tp_t ‹_› ‹_› | exact Nat.ne_of_gt ‹_› | exact Nat.ne_of_lt ‹_› | exact Nat.ne_of_gt (Nat.lt_trans ‹_› ‹_›))
  k_with "m_sd1" => ((case k1 | k2 | k3 | k4 | k5 => assumption))
  k_with "m_sd2" => ((case kK => first | exact rfl | assumption); (case kd => first | (dsimp only [ktrTop, Around.deeper]; omega) | ktr_room); (case ku => first | (dsimp only [ktrTop, Around.deeper]; omega) | ktr_units))
  k_with "m_steps" => (repeat' (first | ((first | (k_unfold) | fail); (try dsimp only)) | (first | (k_extra "m_ret") | fail) | (first | (walk1) | fail) | (dsimp only; (first | (walk1) | fail)) | fail "no step"))
  k_with "m_ret" => ((with_reducible refine' hret _ _ _ _ ?_ ?e2 ?e3); (case e2 => k_asm); (case e3 => k_asm); (try k_extra "m_val"))
  k_with "m_call" => k_dflt ((first | (refine' Gives.useM ?G ?k1 ?k2 ?k3 ?k4 ?k5 ?kK ?kd ?ku ?_; k_extra "m_sd1"; (case G => k_extra "m_con"); k_extra "m_sd2"; intro r9 h9 tk9 hR9 F9 N9; (try k_sweep); (k_extra "m_open"); ((try dsimp only); (try k_fold))) | fail))
  k_with "m_eqs" => ((with_reducible show wpAny _ _ (compareOp CmpOp.Eq (Value.str (Kd.str _) _) (Value.str _ _)) _ _ _); with_reducible first | refine eq_kd (kd_w _) ?_ | refine eq_kd (kd_u _) ?_ | refine eq_kd (kd_o _) ?_ | refine eq_kd (kd_c _) ?_ | refine eq_kd (kd_n1 _) ?_ | refine eq_kd (kd_n2 _) ?_ | refine eq_kd (kd_n3 _) ?_ | refine eq_kd (kd_n4 _) ?_ | refine eq_kd (kd_n5 _) ?_ | refine eq_kd (kd_n6 _) ?_ | refine eq_kd (kd_n7 _) ?_ | refine eq_kd (kd_n8 _) ?_)
  k_with "m_ne" => ((with_reducible refine ofs_ne ?_); simp only [ne_eq, String.reduceEq, not_false_eq_true]; done)
  k_with "m_look" => (first | k_dflt (exact rfl) | repeat (first | with_reducible exact look_here | with_reducible exact look_ithere | with_reducible refine Eq.trans (look_next (by k_extra "m_ne")) ?_ | with_reducible refine Eq.trans (look_itnext (by k_extra "m_ne")) ?_ | with_reducible refine Eq.trans (look_off (by k_extra "m_off")) ?_ | with_reducible refine Eq.trans look_nil ?_ | assumption | fail "m_look"))
  k_with "m_kind" => (first | kernel_rfl! | k_dflt (exact rfl) | repeat (first | with_reducible exact kind_here | with_reducible refine Eq.trans (kind_next (by k_extra "m_ne")) ?_ | fail "m_kind"))
  k_with "m_name" => (with_reducible refine' nameK ?k0 ?k1 ?k2 ?k5 ?k3 ?k6 ?_; (case k5 => k_extra "m_kind"); (case k0 => first | assumption | k_dflt assumption); (case k1 => assumption); (case k2 => assumption); (case k3 => k_dflt k_is); (case k6 => simp only [ne_eq, String.reduceEq, not_false_eq_true]))
  k_with "m_name" => (first | (with_reducible refine' ldK ?k1 ?k4 ?k2 ?k5 ?_; (case k4 => k_extra "m_kind"); (case k1 => first | assumption | k_dflt assumption); (case k2 => k_extra "m_look"); (case k5 => simp only [ne_eq, String.reduceEq, not_false_eq_true])) | fail)
  k_with "m_ev" => (with_reducible refine' ev_name ?k0 ?k1 ?k2 ?k5 ?k3 ?k6; (case k5 => k_extra "m_kind"); (case k0 => first | assumption | k_dflt assumption); (case k1 => assumption); (case k2 => assumption); (case k3 => k_dflt k_is); (case k6 => simp only [ne_eq, String.reduceEq, not_false_eq_true]))
  k_with "m_ev" => (with_reducible refine' ev_ld ?k1 ?k4 ?k2 ?k5; (case k4 => k_extra "m_kind"); (case k1 => first | assumption | k_dflt assumption); (case k2 => k_extra "m_look"); (case k5 => simp only [ne_eq, String.reduceEq, not_false_eq_true]))
  k_with "m_spl" => (with_reducible refine' args_ev ?zv1 ?_; (case zv1 => k_extra "m_ev"))
  k_with "m_spl" => (with_reducible first | (refine' args_ev1 ?zv1 ?_; (case zv1 => k_extra "m_ev")) | (refine' args_ev2 ?zv1 ?zv2 ?_; (case zv1 => k_extra "m_ev"); (case zv2 => k_extra "m_ev")) | (refine' args_ev3 ?zv1 ?zv2 ?zv3 ?_; (case zv1 => k_extra "m_ev"); (case zv2 => k_extra "m_ev"); (case zv3 => k_extra "m_ev")) | (refine' args_ev4 ?zv1 ?zv2 ?zv3 ?zv4 ?_; (case zv1 => k_extra "m_ev"); (case zv2 => k_extra "m_ev"); (case zv3 => k_extra "m_ev"); (case zv4 => k_extra "m_ev")))
  k_with "m_att" => (with_reducible refine' attr_ev ?zv1 ?_; (case zv1 => k_extra "m_ev"))
  k_with "m_cal" => (with_reducible refine' call_ev ?zv1 ?_; (case zv1 => k_extra "m_ev"))
  k_with "m_cam" => (with_reducible refine' method_ev ?zv1 ?_; (case zv1 => k_extra "m_ev"))
  k_with "m_ite" => (first | with_reducible refine ite_tt ?_ | with_reducible refine ite_ff ?_ | (with_reducible refine dec_pos ?c ?_; (case c => omega)) | (with_reducible refine dec_neg ?c ?_; (case c => omega)) | (with_reducible refine ine_pos ?c ?_; (case c => omega)) | (with_reducible refine ine_neg ?c ?_; (case c => omega)) | (with_reducible refine ieq_pos ?c ?_; (case c => omega)) | (with_reducible refine ieq_neg ?c ?_; (case c => omega)) | (with_reducible refine split_dec ?_ ?_ <;> intro _) | (with_reducible refine split_ine ?_ ?_ <;> intro _) | (with_reducible refine split_ieq ?_ ?_ <;> intro _))
  k_with "m_sub" => (intro q9 h9; repeat' (first | exact h9 | refine List.mem_append_left _ ?_ | refine List.mem_cons_of_mem _ ?_))
  k_with "m_view" => (first | assumption | exact ViewIn.mono (by assumption) (by k_extra "m_sub"))
  k_with "m_syn" => (first | assumption | exact SynIn.mono (by assumption) (by k_extra "m_sub"))
  k_with "m_con" => ((with_reducible show Gives _ 218 _ _ _ _); exact is_escape_ok (by k_extra "m_syn"))
  k_with "m_con" => ((with_reducible show Gives _ 225 _ _ _ _); exact is_word_part_ok (by k_extra "m_syn"))
  k_with "m_con" => ((with_reducible show Gives _ 211 _ _ _ _); exact has_ok (by k_extra "m_syn") (.inl rfl))
  k_with "m_tab" => (first | assumption | exact TableIn.mono (by assumption) (by k_extra "m_sub"))
  k_with "m_con" => ((with_reducible show Gives _ 348 _ _ _ _); exact syntax_in_ok (by k_extra "m_view") (by k_extra "m_tab") (by assumption) (by omega) (by omega))
  k_with "m_con" => ((with_reducible show Gives _ 362 _ _ _ _); exact begin_mark_ok (by k_extra "m_view") (by k_extra "m_tab") (by assumption) (by omega) (by omega))
  k_with "m_open" => (rcases hR9 with ⟨i9, t9, rfl⟩)
  k_with "m_leave" => k_dflt (first | (refine' leave_pass ?hK FG9 rfl R9 U9 ?_; (case hK => assumption); intro h8 R8 U8; k_extra "m_esc") | fail)
  k_with "m_call" => k_dflt (first | (refine' GivesR.useScB ?G ?k1 ?k2 ?k3 ?k4 ?k5 ?kK ?kd ?ku ?_ ?_; k_extra "m_sd1"; (case G => k_extra "m_conR"); k_extra "m_sd2"; rotate_left; (intro e9 dx9 nw9 G9 h9 tk9 msg9 g9 n9 hE9 hS9 hk9 FG9 R9 U9; k_extra "m_openE"); rotate_left; (intro o9 h9 tk9 hb9 ho9 F9 N9; (try k_sweep); (try k_extra "m_openSc"); (try dsimp only); (try k_fold))) | fail)
  k_with "m_openE" => skip
  k_with "m_scin" => first | assumption | exact ⟨_, _, _, _, _, _, _, _, _, _, _, _, _, _, _, _, _, _, _, _, _, _, rfl⟩
  k_with "m_sca" => first | assumption | exact ⟨by assumption, by assumption⟩
  k_with "m_con" => ((with_reducible show Gives _ 558 _ _ _ _); exact counts_ok (by k_extra "m_scin"))
  k_with "m_conR" => ((with_reducible show GivesR _ 621 _ _ _ _ _ _); exact take_f_ok (by k_extra "m_scin") (by k_extra "m_sca"))
  trivial
set_option maxHeartbeats 4000000 in
theorem step_forward_ok {w : World} {news : Led} {o : Obj} {sc sd v tb : Addr} {cs : List Int} {p x d l g : Int} {b : Bool} {syn : Kd → Addr} (hv : ViewIn news v cs p) (ht : TableIn w news tb syn) (hg : Sgns cs) (ho : ScIn v tb x d l g b o) (hA : ScA sc sd news) (h0 : p ≤ x) (h1 : x < p + cs.length) :
    GivesR w 614 8 [.ref sc] (scL o sc sd news) news (ScRB (¬ badS true (kdOf (codeR cs (x - p))) d l) sc sd v tb (x + 1) (dS true (kdOf (codeR cs (x - p))) d) l g (bS true (kdOf (codeR cs (x - p))) d b) news)
      (fun msg g' n' => msg = sEnds ∧ g' = g ∧ n' = x + 1 ∧ badS true (kdOf (codeR cs (x - p))) d l) := (by exact qz : Qz _ (by
  obtain ⟨l1, l2⟩ := hA
  obtain ⟨s1, s2, s3, s4, s5, s6, s7, s8, s9, u1, u2, u3, u4, u5, u6, u7, u8, u9, up, ud, ul, ug, rfl⟩ := ho
  obtain ⟨td, rd, o2, g1, g2, j1, j2, n1, n2, n3, hd9, lo9, hy⟩ := id ht
  have hs9 := hy (kdOf (codeR cs (x - p)))
  obtain ⟨dx9, d1, d2, d3, i1, i2, i3, t1, t3, mv, o1, o3⟩ := id hs9
  k_with "m_call" => ((rename News _ _ _ _ => lN9); (have lM9 := drop_tup lN9); clear lN9; k_extra "m_call")
  k_with "m_openU" => (rcases hR9 with ⟨hb9, rfl, o9, rfl, ho9⟩)
  k_with "m_esc" => exact hesc _ _ _ _ _ _ _ _ _ hE9 hS9 hk9 (by assumption) R8 U8
  k_with "m_val" => exact ⟨hb9, rfl, _, rfl, ho9⟩
  k_with "m_val" => exact ⟨badS_else (notO_wu (by assumption)) (notC_wu (by assumption)), rfl, _, rfl, by rw [dS_else (notO_wu (by assumption)) (notC_wu (by assumption)), bS_else (notO_wu (by assumption)) (notC_wu (by assumption))]; exact ⟨_, _, _, _, _, _, _, _, _, _, _, _, _, _, _, _, _, _, _, _, _, _, rfl⟩⟩
  constructor
  intro pF loF meF mgF mbF dp un gd cnF csF aF cdF clF outer A₀ base h₀ LF mF sF QF EF B F X N T hk hd hu hret hesc
  refine wpAny_call ?_
  k_dflt (refine' code_defK ([(Str.ofString "scan", .ref sc)]).reverse ?k1 ?k2 ?k3 ?k4 ?k5 ?kA ?kF ?kK ?k6 ?k7 ?k8 ?k9 ?kB ?_ ?c2 ?c3 ?c4 ?c5; (case kA => exact rfl); (case kF => exact rfl); (case kK => exact hk); (case k1 => exact B); (case k2 => exact F); (case k3 => exact X); (case k4 => exact N); (case k5 => exact T); (case k6 => k_is); (case k7 => k_is); (case k8 => ktr_room); (case k9 => first | exact BindsTo.of_eq rfl | exact binds_K (by k_in) rfl (by k_is) rfl rfl rfl); (case c5 => decide); (case kB => exact locs (by kernel_rfl!)); (case c2 => exact rfl); (case c3 => exact rfl); (case c4 => exact rfl); k_whole; intro g' L' h' FG' F' N' B' X' T'; (try dsimp only [List.reverse, List.reverseAux] at F'); (try dsimp only); (try k_fold); (try (show (let ak : Around := _; wpAny _ ak _ _ _ _)); intro ak))
  k_extra "m_steps"))
theorem u56 : True := by
  k_with_none
  k_with "m_om" => (with_reducible first | decide | assumption | ((show @LT.lt Nat _ _ _); first | exact rm_a ‹_› rfl | exact rm_b ‹_› rfl | exact rm_c ‹_› | exact rm_d ‹_› | exact tn_a ‹_› | exact tn_b ‹_› | exact tn_c ‹_› | exact tn_d ‹_› | exact rm_e ‹_› rfl | exact tp_d ‹_› | exact tp_e ‹_› ‹_› | exact tp_h ‹_› | exact tp_v ‹_› | exact tr_a ‹_›) | ((show @LE.le Nat _ _ _); first | exact tn_h ‹_› | exact tp_c ‹_› | exact tp_k ‹_› ‹_› | exact tp_l ‹_› ‹_› ‹_› | exact tp_x ‹_› ‹_› | exact Nat.le_trans ‹_› ‹_›) | ((show @LT.lt Int _ _ _); first | exact tn_m ‹_› | exact tn_n ‹_› | exact tp_p ‹_› ‹_› ‹_› ‹_› | exact tp_q ‹_› ‹_› ‹_› | exact Int.lt_of_toNat_lt ‹_› | exact Int.lt_of_lt_of_le ‹_› ‹_› | exact Int.sub_left_lt_of_lt_add ‹_› | exact tr_b ‹_›) | ((show @LE.le Int _ _ _); first | exact tn_i ‹_› | exact tn_j ‹_› | exact tn_k ‹_› | exact tn_l ‹_› | exact tn_o ‹_› | exact tp_i ‹_› ‹_› | exact tp_a ‹_› ‹_› | exact tp_a1 ‹_› ‹_› | exact tp_b ‹_› | exact tp_r ‹_› ‹_› | exact tp_s ‹_› | exact Int.le_of_lt (Int.not_le.mp ‹_›) | exact Int.sub_nonneg_of_le ‹_› | exact Int.sub_nonneg_of_le (tn_i ‹_›) | exact Int.le_add_of_nonneg_right (Int.natCast_nonneg _)) | ((show @Eq Nat _ _); first | exact tn_s ‹_› | exact tn_t ‹_› | exact (tn_s ‹_›).symm | exact tp_g ‹_› | exact tn_s (Int.not_le.mp ‹_›) | exact tp_u ‹_› | exact tp_j) | ((show @Eq Int _ _); first | exact tn_e ‹_› | exact tn_f ‹_› | exact tn_g ‹_› | exact tp_m ‹_› | exact tp_n ‹_› | exact tp_o ‹_› ‹_› | exact tp_w ‹_› ‹_› | exact tp_y) | exact tp_f ‹_› ‹_› | exact tp_f ‹_› | exact tp_f (Int.not_lt.mp ‹_›) | exact tp_t ‹_› ‹_› | exact Nat.ne_of_gt ‹_› | exact Nat.ne_of_lt ‹_› | exact Nat.ne_of_gt (Nat.lt_trans ‹_› ‹_›))
  k_with "m_sd1" => ((case k1 | k2 | k3 | k4 | k5 => assumption))
  k_with "m_sd2" => ((case kK => first | exact rfl | assumption); (case kd => first | (dsimp only [ktrTop, Around.deeper]; omega) | ktr_room); (case ku => first | (dsimp only [ktrTop, Around.deeper]; omega) | ktr_units))
  k_with "m_steps" => (repeat' (first | ((first | (k_unfold) | fail); (try dsimp only)) | (first | (k_extra "m_ret") | fail) | (first | (walk1) | fail) | (dsimp only; (first | (walk1) | fail)) | fail "no step"))
  k_with "m_ret" => ((with_reducible refine' hret _ _ _ _ ?_ ?e2 ?e3); (case e2 => k_asm); (case e3 => k_asm); (try k_extra "m_val"))
  k_with "m_call" => k_dflt ((first | (refine' Gives.useM ?G ?k1 ?k2 ?k3 ?k4 ?k5 ?kK ?kd ?ku ?_; k_extra "m_sd1"; (case G => k_extra "m_con"); k_extra "m_sd2"; intro r9 h9 tk9 hR9 F9 N9; (try k_sweep); (k_extra "m_open"); ((try dsimp only); (try k_fold))) | fail))
  k_with "m_eqs" => ((with_reducible show wpAny _ _ (compareOp CmpOp.Eq (Value.str (Kd.str _) _) (Value.str _ _)) _ _ _); with_reducible first | refine eq_kd (kd_w _) ?_ | refine eq_kd (kd_u _) ?_ | refine eq_kd (kd_o _) ?_ | refine eq_kd (kd_c _) ?_ | refine eq_kd (kd_n1 _) ?_ | refine eq_kd (kd_n2 _) ?_ | refine eq_kd (kd_n3 _) ?_ | refine eq_kd (kd_n4 _) ?_ | refine eq_kd (kd_n5 _) ?_ | refine eq_kd (kd_n6 _) ?_ | refine eq_kd (kd_n7 _) ?_ | refine eq_kd (kd_n8 _) ?_)
  k_with "m_ne" => ((with_reducible refine ofs_ne ?_); simp only [ne_eq, String.reduceEq, not_false_eq_true]; done)
  k_with "m_look" => (first | k_dflt (exact rfl) | repeat (first | with_reducible exact look_here | with_reducible exact look_ithere | with_reducible refine Eq.trans (look_next (by k_extra "m_ne")) ?_ | with_reducible refine Eq.trans (look_itnext (by k_extra "m_ne")) ?_ | with_reducible refine Eq.trans (look_off (by k_extra "m_off")) ?_ | with_reducible refine Eq.trans look_nil ?_ | assumption | fail "m_look"))
  k_with "m_kind" => (first | kernel_rfl! | k_dflt (exact rfl) | repeat (first | with_reducible exact kind_here | with_reducible refine Eq.trans (kind_next (by k_extra "m_ne")) ?_ | fail "m_kind"))
  k_with "m_name" => (with_reducible refine' nameK ?k0 ?k1 ?k2 ?k5 ?k3 ?k6 ?_; (case k5 => k_extra "m_kind"); (case k0 => first | assumption | k_dflt assumption); (case k1 => assumption); (case k2 => assumption); (case k3 => k_dflt k_is); (case k6 => simp only [ne_eq, String.reduceEq, not_false_eq_true]))
  k_with "m_name" => (first | (with_reducible refine' ldK ?k1 ?k4 ?k2 ?k5 ?_; (case k4 => k_extra "m_kind"); (case k1 => first | assumption | k_dflt assumption); (case k2 => k_extra "m_look"); (case k5 => simp only [ne_eq, String.reduceEq, not_false_eq_true])) | fail)
  k_with "m_ev" => (with_reducible refine' ev_name ?k0 ?k1 ?k2 ?k5 ?k3 ?k6; (case k5 => k_extra "m_kind"); (case k0 => first | assumption | k_dflt assumption); (case k1 => assumption); (case k2 => assumption); (case k3 => k_dflt k_is); (case k6 => simp only [ne_eq, String.reduceEq, not_false_eq_true]))
  k_with "m_ev" => (with_reducible refine' ev_ld ?k1 ?k4 ?k2 ?k5; (case k4 => k_extra "m_kind"); (case k1 => first | assumption | k_dflt assumption); (case k2 => k_extra "m_look"); (case k5 => simp only [ne_eq, String.reduceEq, not_false_eq_true]))
  k_with "m_spl" => (with_reducible refine' args_ev ?zv1 ?_; (case zv1 => k_extra "m_ev"))
  k_with "m_spl" => (with_reducible first | (refine' args_ev1 ?zv1 ?_; (case zv1 => k_extra "m_ev")) | (refine' args_ev2 ?zv1 ?zv2 ?_; (case zv1 => k_extra "m_ev"); (case zv2 => k_extra "m_ev")) | (refine' args_ev3 ?zv1 ?zv2 ?zv3 ?_; (case zv1 => k_extra "m_ev"); (case zv2 => k_extra "m_ev"); (case zv3 => k_extra "m_ev")) | (refine' args_ev4 ?zv1 ?zv2 ?zv3 ?zv4 ?_; (case zv1 => k_extra "m_ev"); (case zv2 => k_extra "m_ev"); (case zv3 => k_extra "m_ev"); (case zv4 => k_extra "m_ev")))
  k_with "m_att" => (with_reducible refine' attr_ev ?zv1 ?_; (case zv1 => k_extra "m_ev"))
  k_with "m_cal" => (with_reducible refine' call_ev ?zv1 ?_; (case zv1 => k_extra "m_ev"))
  k_with "m_cam" => (with_reducible refine' method_ev ?zv1 ?_; (case zv1 => k_extra "m_ev"))
  k_with "m_ite" => (first | with_reducible refine ite_tt ?_ | with_reducible refine ite_ff ?_ | (with_reducible refine dec_pos ?c ?_; (case c => omega)) | (with_reducible refine dec_neg ?c ?_; (case c => omega)) | (with_reducible refine ine_pos ?c ?_; (case c => omega)) | (with_reducible refine ine_neg ?c ?_; (case c => omega)) | (with_reducible refine ieq_pos ?c ?_; (case c => omega)) | (with_reducible refine ieq_neg ?c ?_; (case c => omega)) | (with_reducible refine split_dec ?_ ?_ <;> intro _) | (with_reducible refine split_ine ?_ ?_ <;> intro _) | (with_reducible refine split_ieq ?_ ?_ <;> intro _))
  k_with "m_sub" => (intro q9 h9; repeat' (first | exact h9 | refine List.mem_append_left _ ?_ | refine List.mem_cons_of_mem _ ?_))
  k_with "m_view" => (first | assumption | exact ViewIn.mono (by assumption) (by k_extra "m_sub"))
  k_with "m_syn" => (first | assumption | exact SynIn.mono (by assumption) (by k_extra "m_sub"))
  k_with "m_con" => ((with_reducible show Gives _ 218 _ _ _ _); exact is_escape_ok (by k_extra "m_syn"))
  k_with "m_con" => ((with_reducible show Gives _ 225 _ _ _ _); exact is_word_part_ok (by k_extra "m_syn"))
  k_with "m_con" => ((with_reducible show Gives _ 211 _ _ _ _); exact has_ok (by k_extra "m_syn") (.inl rfl))
  k_with "m_tab" => (first | assumption | exact TableIn.mono (by assumption) (by k_extra "m_sub"))
  k_with "m_con" => ((with_reducible show Gives _ 348 _ _ _ _); exact syntax_in_ok (by k_extra "m_view") (by k_extra "m_tab") (by assumption) (by omega) (by omega))
  k_with "m_con" => ((with_reducible show Gives _ 383 _ _ _ _); exact is_quoted_ok (by k_extra "m_view") (by k_extra "m_tab") (by assumption) (by omega) (by omega))
  k_with "m_open" => (rcases hR9 with ⟨i9, t9, rfl⟩)
  k_with "m_leave" => k_dflt (first | (refine' leave_pass ?hK FG9 rfl R9 U9 ?_; (case hK => assumption); intro h8 R8 U8; k_extra "m_esc") | fail)
  k_with "m_call" => k_dflt (first | (refine' GivesR.useScB ?G ?k1 ?k2 ?k3 ?k4 ?k5 ?kK ?kd ?ku ?_ ?_; k_extra "m_sd1"; (case G => k_extra "m_conR"); k_extra "m_sd2"; rotate_left; (intro e9 dx9 nw9 G9 h9 tk9 msg9 g9 n9 hE9 hS9 hk9 FG9 R9 U9; k_extra "m_openE"); rotate_left; (intro o9 h9 tk9 hb9 ho9 F9 N9; (try k_sweep); (try k_extra "m_openSc"); (try dsimp only); (try k_fold))) | fail)
  k_with "m_openE" => skip
  k_with "m_scin" => first | assumption | exact ⟨_, _, _, _, _, _, _, _, _, _, _, _, _, _, _, _, _, _, _, _, _, _, rfl⟩
  k_with "m_sca" => first | assumption | exact ⟨by assumption, by assumption⟩
  k_with "m_con" => ((with_reducible show Gives _ 558 _ _ _ _); exact counts_ok (by k_extra "m_scin"))
  k_with "m_conR" => ((with_reducible show GivesR _ 621 _ _ _ _ _ _); exact take_b_ok (by k_extra "m_scin") (by k_extra "m_sca"))
  trivial
set_option maxHeartbeats 4000000 in
theorem step_backward_ok {w : World} {news : Led} {o : Obj} {sc sd v tb cm st : Addr} {oc : Obj} {cs : List Int} {p x d l g : Int} {b : Bool} {syn : Kd → Addr} (hv : ViewIn news v cs p) (ht : TableIn w news tb syn) (hg : Sgns cs) (hc : (cm, oc) ∈ news) (hoc : oc.IsDictOf (PySem.intKind PR w) ([] : List (Int × Value))) (hlo : (cm == sysModules) = false) (ho : ScIn v tb x d l g b o) (hA : ScA sc sd news) (h0 : p ≤ x - 1) (h1 : x - 1 < p + cs.length) :
    GivesR w 649 8 [.ref sc, .ref cm, .ref st] (scL o sc sd news) news (ScRB (¬ badS false (kdOf (codeR cs (x - 1 - p))) d l) sc sd v tb (x - 1) (dS false (kdOf (codeR cs (x - 1 - p))) d) l g (bS false (kdOf (codeR cs (x - 1 - p))) d b) news)
      (fun msg g' n' => msg = sEnds ∧ g' = g ∧ n' = x - 1 ∧ badS false (kdOf (codeR cs (x - 1 - p))) d l) := (by exact qz : Qz _ (by
  obtain ⟨l1, l2⟩ := hA
  obtain ⟨s1, s2, s3, s4, s5, s6, s7, s8, s9, u1, u2, u3, u4, u5, u6, u7, u8, u9, up, ud, ul, ug, rfl⟩ := ho
  obtain ⟨td, rd, o2, g1, g2, j1, j2, n1, n2, n3, hd9, lo9, hy⟩ := id ht
  have hs9 := hy (kdOf (codeR cs (x - 1 - p)))
  obtain ⟨dx9, d1, d2, d3, i1, i2, i3, t1, t3, mv, o1, o3⟩ := id hs9
  k_with "m_call" => ((rename News _ _ _ _ => lN9); (have lM9 := drop_tup lN9); clear lN9; k_extra "m_call")
  k_with "m_openU" => (rcases hR9 with ⟨hb9, rfl, o9, rfl, ho9⟩)
  k_with "m_esc" => exact hesc _ _ _ _ _ _ _ _ _ hE9 hS9 hk9 (by assumption) R8 U8
  k_with "m_val" => exact ⟨hb9, rfl, _, rfl, ho9⟩
  k_with "m_val" => exact ⟨badS_else (notO_wu (by assumption)) (notC_wu (by assumption)), rfl, _, rfl, by rw [dS_else (notO_wu (by assumption)) (notC_wu (by assumption)), bS_else (notO_wu (by assumption)) (notC_wu (by assumption))]; exact ⟨_, _, _, _, _, _, _, _, _, _, _, _, _, _, _, _, _, _, _, _, _, _, rfl⟩⟩
  k_with "m_in" => k_dflt (first | (refine' kda_in (knd := PySem.intKind PR w) (kvs := ([] : List (Int × Value))) ?N ?m hoc hlo (intKind_is _ _ _ _) false ?e ?_; (case N => assumption); (case m => k_mem); (case e => rfl)) | fail)
  constructor
  intro pF loF meF mgF mbF dp un gd cnF csF aF cdF clF outer A₀ base h₀ LF mF sF QF EF B F X N T hk hd hu hret hesc
  refine wpAny_call ?_
  k_dflt (refine' code_defK ([(Str.ofString "scan", .ref sc), (Str.ofString "comments", .ref cm), (Str.ofString "strings", .ref st)]).reverse ?k1 ?k2 ?k3 ?k4 ?k5 ?kA ?kF ?kK ?k6 ?k7 ?k8 ?k9 ?kB ?_ ?c2 ?c3 ?c4 ?c5; (case kA => exact rfl); (case kF => exact rfl); (case kK => exact hk); (case k1 => exact B); (case k2 => exact F); (case k3 => exact X); (case k4 => exact N); (case k5 => exact T); (case k6 => k_is); (case k7 => k_is); (case k8 => ktr_room); (case k9 => first | exact BindsTo.of_eq rfl | exact binds_K (by k_in) rfl (by k_is) rfl rfl rfl); (case c5 => decide); (case kB => exact locs (by kernel_rfl!)); (case c2 => exact rfl); (case c3 => exact rfl); (case c4 => exact rfl); k_whole; intro g' L' h' FG' F' N' B' X' T'; (try dsimp only [List.reverse, List.reverseAux] at F'); (try dsimp only); (try k_fold); (try (show (let ak : Around := _; wpAny _ ak _ _ _ _)); intro ak))
  k_extra "m_steps"))
theorem u57 : True := by
  k_with_none
  k_with "m_om" => (with_reducible first | decide | assumption | ((show @LT.lt Nat _ _ _); first | exact rm_a ‹_› rfl | exact rm_b ‹_› rfl | exact rm_c ‹_› | exact rm_d ‹_› | exact tn_a ‹_› | exact tn_b ‹_› | exact tn_c ‹_› | exact tn_d ‹_› | exact rm_e ‹_› rfl | exact tp_d ‹_› | exact tp_e ‹_› ‹_› | exact tp_h ‹_› | exact tp_v ‹_› | exact tr_a ‹_›) | ((show @LE.le Nat _ _ _); first | exact tn_h ‹_› | exact tp_c ‹_› | exact tp_k ‹_› ‹_› | exact tp_l ‹_› ‹_› ‹_› | exact tp_x ‹_› ‹_› | exact Nat.le_trans ‹_› ‹_›) | ((show @LT.lt Int _ _ _); first | exact tn_m ‹_› | exact tn_n ‹_› | exact tp_p ‹_› ‹_› ‹_› ‹_› | exact tp_q ‹_› ‹_› ‹_› | exact Int.lt_of_toNat_lt ‹_› | exact Int.lt_of_lt_of_le ‹_› ‹_› | exact Int.sub_left_lt_of_lt_add ‹_› | exact tr_b ‹_›) | ((show @LE.le Int _ _ _); first | exact tn_i ‹_› | exact tn_j ‹_› | exact tn_k ‹_› | exact tn_l ‹_› | exact tn_o ‹_› | exact tp_i ‹_› ‹_› | exact tp_a ‹_› ‹_› | exact tp_a1 ‹_› ‹_› | exact tp_b ‹_› | exact tp_r ‹_› ‹_› | exact tp_s ‹_› | exact Int.le_of_lt (Int.not_le.mp ‹_›) | exact Int.sub_nonneg_of_le ‹_› | exact Int.sub_nonneg_of_le (tn_i ‹_›) | exact Int.le_add_of_nonneg_right (Int.natCast_nonneg _)) | ((show @Eq Nat _ _); first | exact tn_s ‹_› | exact tn_t ‹_› | exact (tn_s ‹_›).symm | exact tp_g ‹_› | exact tn_s (Int.not_le.mp ‹_›) | exact tp_u ‹_› | exact tp_j) | ((show @Eq Int _ _); first | exact tn_e ‹_› | exact tn_f ‹_› | exact tn_g ‹_› | exact tp_m ‹_› | exact tp_n ‹_› | exact tp_o ‹_› ‹_› | exact tp_w ‹_› ‹_› | exact tp_y) | exact tp_f ‹_› ‹_› | exact tp_f ‹_› | exact tp_f (Int.not_lt.mp ‹_›) | exact tp_t ‹_› ‹_› | exact Nat.ne_of_gt ‹_› | exact Nat.ne_of_lt ‹_› | exact Nat.ne_of_gt (Nat.lt_trans ‹_› ‹_›))
  k_with "m_sd1" => ((case k1 | k2 | k3 | k4 | k5 => assumption))
  k_with "m_sd2" => ((case kK => first | exact rfl | assumption); (case kd => first | (dsimp only [ktrTop, Around.deeper]; omega) | ktr_room); (case ku => first | (dsimp only [ktrTop, Around.deeper]; omega) | ktr_units))
  k_with "m_steps" => (repeat' (first | ((first | (k_unfold) | fail); (try dsimp only)) | (first | (k_extra "m_ret") | fail) | (first | (walk1) | fail) | (dsimp only; (first | (walk1) | fail)) | fail "no step"))
  k_with "m_call" => k_dflt ((first | (refine' GivesU.useM ?G ?k1 ?k2 ?k3 ?k4 ?k5 ?kK ?kd ?ku ?_; k_extra "m_sd1"; (case G => k_extra "m_conU"); k_extra "m_sd2"; intro r9 news9 h9 tk9 hR9 F9 N9; (try k_sweep); k_extra "m_openU" <;> ((try dsimp only); (try k_fold))) | fail))
  k_with "m_call" => k_dflt ((first | (refine' Gives.useM ?G ?k1 ?k2 ?k3 ?k4 ?k5 ?kK ?kd ?ku ?_; k_extra "m_sd1"; (case G => k_extra "m_con"); k_extra "m_sd2"; intro r9 h9 tk9 hR9 F9 N9; (try k_sweep); (k_extra "m_open"); ((try dsimp only); (try k_fold))) | fail))
  k_with "m_ne" => ((with_reducible refine ofs_ne ?_); simp only [ne_eq, String.reduceEq, not_false_eq_true]; done)
  k_with "m_look" => (first | k_dflt (exact rfl) | repeat (first | with_reducible exact look_here | with_reducible exact look_ithere | with_reducible refine Eq.trans (look_next (by k_extra "m_ne")) ?_ | with_reducible refine Eq.trans (look_itnext (by k_extra "m_ne")) ?_ | with_reducible refine Eq.trans (look_off (by k_extra "m_off")) ?_ | with_reducible refine Eq.trans look_nil ?_ | assumption | fail "m_look"))
  k_with "m_all" => ((try dsimp only); repeat (first | with_reducible exact all_nil | (with_reducible refine' all_cons _ _; (· k_extra "m_look")) | fail "m_all"))
  k_with "m_kind" => (first | kernel_rfl! | k_dflt (exact rfl) | repeat (first | with_reducible exact kind_here | with_reducible refine Eq.trans (kind_next (by k_extra "m_ne")) ?_ | fail "m_kind"))
  k_with "m_name" => (first | (with_reducible refine' ldK ?k1 ?k4 ?k2 ?k5 ?_; (case k4 => k_extra "m_kind"); (case k1 => first | assumption | k_dflt assumption); (case k2 => k_extra "m_look"); (case k5 => simp only [ne_eq, String.reduceEq, not_false_eq_true])) | fail)
  k_with "m_ev" => (with_reducible refine' ev_name ?k0 ?k1 ?k2 ?k5 ?k3 ?k6; (case k5 => k_extra "m_kind"); (case k0 => first | assumption | k_dflt assumption); (case k1 => assumption); (case k2 => assumption); (case k3 => k_dflt k_is); (case k6 => simp only [ne_eq, String.reduceEq, not_false_eq_true]))
  k_with "m_ev" => (with_reducible refine' ev_ld ?k1 ?k4 ?k2 ?k5; (case k4 => k_extra "m_kind"); (case k1 => first | assumption | k_dflt assumption); (case k2 => k_extra "m_look"); (case k5 => simp only [ne_eq, String.reduceEq, not_false_eq_true]))
  k_with "m_spl" => (with_reducible refine' args_ev ?zv1 ?_; (case zv1 => k_extra "m_ev"))
  k_with "m_spl" => (with_reducible first | (refine' args_ev1 ?zv1 ?_; (case zv1 => k_extra "m_ev")) | (refine' args_ev2 ?zv1 ?zv2 ?_; (case zv1 => k_extra "m_ev"); (case zv2 => k_extra "m_ev")) | (refine' args_ev3 ?zv1 ?zv2 ?zv3 ?_; (case zv1 => k_extra "m_ev"); (case zv2 => k_extra "m_ev"); (case zv3 => k_extra "m_ev")) | (refine' args_ev4 ?zv1 ?zv2 ?zv3 ?zv4 ?_; (case zv1 => k_extra "m_ev"); (case zv2 => k_extra "m_ev"); (case zv3 => k_extra "m_ev"); (case zv4 => k_extra "m_ev")))
  k_with "m_att" => (with_reducible refine' attr_ev ?zv1 ?_; (case zv1 => k_extra "m_ev"))
  k_with "m_cal" => (with_reducible refine' call_ev ?zv1 ?_; (case zv1 => k_extra "m_ev"))
  k_with "m_cam" => (with_reducible refine' method_ev ?zv1 ?_; (case zv1 => k_extra "m_ev"))
  k_with "m_ite" => (first | with_reducible refine ite_tt ?_ | with_reducible refine ite_ff ?_ | (with_reducible refine dec_pos ?c ?_; (case c => omega)) | (with_reducible refine dec_neg ?c ?_; (case c => omega)) | (with_reducible refine ine_pos ?c ?_; (case c => omega)) | (with_reducible refine ine_neg ?c ?_; (case c => omega)) | (with_reducible refine ieq_pos ?c ?_; (case c => omega)) | (with_reducible refine ieq_neg ?c ?_; (case c => omega)) | (with_reducible refine split_dec ?_ ?_ <;> intro _) | (with_reducible refine split_ine ?_ ?_ <;> intro _) | (with_reducible refine split_ieq ?_ ?_ <;> intro _))
  k_with "m_sub" => (intro q9 h9; repeat' (first | exact h9 | refine List.mem_append_left _ ?_ | refine List.mem_cons_of_mem _ ?_))
  k_with "m_view" => (first | assumption | exact ViewIn.mono (by assumption) (by k_extra "m_sub"))
  k_with "m_con" => ((with_reducible show Gives _ 50 _ _ _ _); exact end_ok (by k_extra "m_view"))
  k_with "m_tab" => (first | assumption | exact TableIn.mono (by assumption) (by k_extra "m_sub"))
  k_with "m_open" => (rcases hR9 with ⟨i9, t9, rfl⟩)
  k_with "m_conU" => ((with_reducible show GivesU _ 589 _ _ _ _); exact scan_new_ok)
  k_with "m_leave" => k_dflt (first | (refine' leave_pass ?hK FG9 rfl R9 U9 ?_; (case hK => assumption); intro h8 R8 U8; k_extra "m_esc") | fail)
  k_with "m_call" => k_dflt (first | (refine' GivesR.useM ?G ?k1 ?k2 ?k3 ?k4 ?k5 ?kK ?kd ?ku ?_ ?_; k_extra "m_sd1"; (case G => k_extra "m_conR"); k_extra "m_sd2"; rotate_left; (intro e9 dx9 nw9 G9 h9 tk9 msg9 g9 n9 hE9 hS9 hk9 FG9 R9 U9; k_extra "m_openE"); rotate_left; (intro r9 news9 h9 tk9 hR9 F9 N9; (try k_sweep); k_extra "m_openU" <;> ((try dsimp only); (try k_fold)))) | fail)
  k_with "m_call" => k_dflt (first | (refine' GivesR.useScB ?G ?k1 ?k2 ?k3 ?k4 ?k5 ?kK ?kd ?ku ?_ ?_; k_extra "m_sd1"; (case G => k_extra "m_conR"); k_extra "m_sd2"; rotate_left; (intro e9 dx9 nw9 G9 h9 tk9 msg9 g9 n9 hE9 hS9 hk9 FG9 R9 U9; k_extra "m_openE"); rotate_left; (intro o9 h9 tk9 hb9 ho9 F9 N9; (try k_sweep); (try k_extra "m_openSc"); (try dsimp only); (try k_fold))) | fail)
  k_with "m_openE" => skip
  k_with "m_scin" => first | assumption | exact ⟨_, _, _, _, _, _, _, _, _, _, _, _, _, _, _, _, _, _, _, _, _, _, rfl⟩
  k_with "m_sca" => first | assumption | exact ⟨by assumption, by assumption⟩
  k_with "m_conR" => ((with_reducible show GivesR _ 565 _ _ _ _ _ _); exact lost_ok (by k_extra "m_scin") (by k_extra "m_sca"))
  k_with "m_conR" => ((with_reducible show GivesR _ 614 _ _ _ _ _ _); exact step_forward_ok (by k_extra "m_view") (by k_extra "m_tab") (by assumption) (by k_extra "m_scin") (by k_extra "m_sca") (by omega) (by omega))
  trivial
set_option maxHeartbeats 4000000 in
theorem forward_one_ok {w : World} {news : Led} {v tb : Addr} {cs : List Int} {p x n : Int} {syn : Kd → Addr} {t t2 : Tok} (hv : ViewIn news v cs p) (ht : TableIn w news tb syn) (hg : Sgns cs) (h0 : p ≤ x) (h1 : x ≤ p + cs.length) :
    GivesR w 628 9 [.ref v, .ref tb, .int x t, .int n t2, .bool false] news news (fun r n' => n' = news ∧ outR p (scF cs (if 0 < n then 0 else n) (x - p).toNat n (x - p).toNat) r)
      (outE p (scF cs (if 0 < n then 0 else n) (x - p).toNat n (x - p).toNat)) := (by exact qz : Qz _ (by
  obtain ⟨dx, lc, e1, e2, k1, k2, tt, vs, nn9, m1, m2, m3, hI, hlen, hp0, hp1⟩ := id hv
  generalize hl9 : (if 0 < n then 0 else n) = l
  k_with "m_openU" => (rcases hR9 with ⟨sc, sd, o9, rfl, rfl, ho9, l1, l2⟩; rw [hl9] at ho9)
  k_with "m_openU" => (rcases hR9 with ⟨hb9, rfl, o9, rfl, ho9⟩; have hc9 := id ho9; rcases ho9 with ⟨s1, s2, s3, s4, s5, s6, s7, s8, s9, u1, u2, u3, u4, u5, u6, u7, u8, u9, up, ud, ul, ug, rfl⟩)
  k_with "m_openSc" => (have hc9 := id ho9; rcases ho9 with ⟨s1, s2, s3, s4, s5, s6, s7, s8, s9, u1, u2, u3, u4, u5, u6, u7, u8, u9, up, ud, ul, ug, rfl⟩)
  k_with "m_openU" => exact (hR9 : False).elim
  k_with "m_open8" => k_dflt (rcases ho8 with ⟨s1, s2, s3, s4, s5, s6, s7, s8, s9, u1, u2, u3, u4, u5, u6, u7, u8, u9, up, ud, ul, ug, rfl⟩)
  k_with "m_ret" => ((with_reducible refine' hret _ news _ _ ⟨rfl, ?_⟩ ?e2 ?e3); (case e2 => k_asm); (case e3 => exact cb_drop (by assumption) (by k_extra "m_sub")); (try k_extra "m_val"))
  k_with "m_while" => (first | (
    (rename Fr _ _ _ _ => lF); (rename News _ _ _ _ => lN)
    refine' w_while (fun c : Obj × Int × Int × Int => scL c.1 sc sd news) (fun c => [(Str.ofString "scan", .ref sc), (Str.ofString "view", .ref v)]) (fun c => A5 (ScIn v tb c.2.1 c.2.2.1 l c.2.2.2 false c.1) (p ≤ c.2.1) (c.2.1 ≤ p + cs.length) (p ≤ c.2.2.2) (scF cs l (c.2.1 - p).toNat c.2.2.1 (c.2.2.2 - p).toNat = scF cs l (x - p).toNat n (x - p).toNat)) (fun c => (p + cs.length - c.2.1).toNat) (o9, x, n, x) lF lN ?kk ⟨ho9, h0, h1, h0, rfl⟩ ?_
    (case kk => k_extra "m_all")
    clear lF lN
    rintro ⟨o8, y, d, g⟩ u h tk ⟨ho8, y0, y1, y2, y3⟩ lF lN
    (try dsimp only at lF)
    (try dsimp only at lN)
    (try dsimp only at ho8)
    (try dsimp only at y0)
    (try dsimp only at y1)
    (try dsimp only at y2)
    (try dsimp only at y3)
    (try k_extra "m_open8")
    (try k_fold))              | fail)
  k_with "m_wend" => k_dflt (first | (refine' wEnd (_, y + 1, _, y) ?k1 ?k2 ?k3 ?k4 ?k5 ?k6; (case k1 => assumption); (case k2 => assumption); (case k4 => (first | (k_extra "m_all") | fail)); (case k3 => (first | (k_extra "m_sub") | fail)); (case k5 => (first | (exact ⟨scin_cast hc9 (by assumption), by dsimp only; omega, by dsimp only; omega, by dsimp only; omega, by have hq := scF_step (g := g) y0 (by assumption) hb9 (by assumption); rw [if_pos (by assumption)] at hq; exact hq.symm.trans y3⟩) | fail)); (case k6 => (first | (exact (by dsimp only; omega)) | fail))) | fail)
  k_with "m_wend" => k_dflt (first | (refine' wEnd (_, y + 1, _, g) ?k1 ?k2 ?k3 ?k4 ?k5 ?k6; (case k1 => assumption); (case k2 => assumption); (case k4 => (first | (k_extra "m_all") | fail)); (case k3 => (first | (k_extra "m_sub") | fail)); (case k5 => (first | (exact ⟨scin_cast hc9 (by assumption), by dsimp only; omega, by dsimp only; omega, by dsimp only; omega, by have hq := scF_step (g := g) y0 (by assumption) hb9 (by assumption); rw [if_neg (by assumption)] at hq; exact hq.symm.trans y3⟩) | fail)); (case k6 => (first | (exact (by dsimp only; omega)) | fail))) | fail)
  k_with "m_esc" => (rw [← y3, scF_bad y0 (by assumption) hE9.2.2.2] at hesc; exact hesc _ _ _ _ _ _ _ _ _ ⟨hE9.1, by first | exact tq_a (by assumption) (by assumption) hE9.2.1 | exact tq_b (by assumption) (by assumption) hE9.2.1 | omega, by first | exact hE9.2.2.1.trans (tn_f (by assumption)) | omega⟩ hS9 hk9 (by assumption) R8 U8)
  k_with "m_esc" => (rw [← y3, scF_unb (by omega) (by assumption)] at hesc; exact hesc _ _ _ _ _ _ _ _ _ ⟨hE9.1, by first | exact hE9.2.1.trans (tn_e (by assumption)) | omega, by first | exact hE9.2.2.trans (tn_e (by assumption)) | omega⟩ hS9 hk9 (by assumption) R8 U8)
  k_with "m_val" => (rw [← y3, scF_done y0 (by assumption) hb9 (by assumption)]; exact ⟨_, congrArg (fun z => Value.int z _) (by omega)⟩)
  k_with "m_val" => (rw [← y3, scF_off (by omega) (by assumption)]; exact rfl)
  constructor
  intro pF loF meF mgF mbF dp un gd cnF csF aF cdF clF outer A₀ base h₀ LF mF sF QF EF B F X N T hk hd hu hret hesc
  refine wpAny_call ?_
  k_dflt (refine' code_defK ([(Str.ofString "view", .ref v), (Str.ofString "table", .ref tb), (Str.ofString "at", .int x t), (Str.ofString "depth", .int n t2), (Str.ofString "is_expression", .bool false)]).reverse ?k1 ?k2 ?k3 ?k4 ?k5 ?kA ?kF ?kK ?k6 ?k7 ?k8 ?k9 ?kB ?_ ?c2 ?c3 ?c4 ?c5; (case kA => exact rfl); (case kF => exact rfl); (case kK => exact hk); (case k1 => exact B); (case k2 => exact F); (case k3 => exact X); (case k4 => exact N); (case k5 => exact T); (case k6 => k_is); (case k7 => k_is); (case k8 => ktr_room); (case k9 => first | exact BindsTo.of_eq rfl | exact binds_K (by k_in) rfl (by k_is) rfl rfl rfl); (case c5 => decide); (case kB => exact locs (by kernel_rfl!)); (case c2 => exact rfl); (case c3 => exact rfl); (case c4 => exact rfl); k_whole; intro g' L' h' FG' F' N' B' X' T'; (try dsimp only [List.reverse, List.reverseAux] at F'); (try dsimp only); (try k_fold); (try (show (let ak : Around := _; wpAny _ ak _ _ _ _)); intro ak))
  k_extra "m_steps"))
theorem u58 : True := by
  k_with_none
  k_with "m_om" => (with_reducible first | decide | assumption | ((show @LT.lt Nat _ _ _); first | exact rm_a ‹_› rfl | exact rm_b ‹_› rfl | exact rm_c ‹_› | exact rm_d ‹_› | exact tn_a ‹_› | exact tn_b ‹_› | exact tn_c ‹_› | exact tn_d ‹_› | exact rm_e ‹_› rfl | exact tp_d ‹_› | exact tp_e ‹_› ‹_› | exact tp_h ‹_› | exact tp_v ‹_› | exact tr_a ‹_›) | ((show @LE.le Nat _ _ _); first | exact tn_h ‹_› | exact tp_c ‹_› | exact tp_k ‹_› ‹_› | exact tp_l ‹_› ‹_› ‹_› | exact tp_x ‹_› ‹_› | exact Nat.le_trans ‹_› ‹_›) | ((show @LT.lt Int _ _ _); first | exact tn_m ‹_› | exact tn_n ‹_› | exact tp_p ‹_› ‹_› ‹_› ‹_› | exact tp_q ‹_› ‹_› ‹_› | exact Int.lt_of_toNat_lt ‹_› | exact Int.lt_of_lt_of_le ‹_› ‹_› | exact Int.sub_left_lt_of_lt_add ‹_› | exact tr_b ‹_›) | ((show @LE.le Int _ _ _); first | exact tn_i ‹_› | exact tn_j ‹_› | exact tn_k ‹_› | exact tn_l ‹_› | exact tn_o ‹_› | exact tp_i ‹_› ‹_› | exact tp_a ‹_› ‹_› | exact tp_a1 ‹_› ‹_› | exact tp_b ‹_› | exact tp_r ‹_› ‹_› | exact tp_s ‹_› | exact Int.le_of_lt (Int.not_le.mp ‹_›) | exact Int.sub_nonneg_of_le ‹_› | exact Int.sub_nonneg_of_le (tn_i ‹_›) | exact Int.le_add_of_nonneg_right (Int.natCast_nonneg _)) | ((show @Eq Nat _ _); first | exact tn_s ‹_› | exact tn_t ‹_› | exact (tn_s ‹_›).symm | exact tp_g ‹_› | exact tn_s (Int.not_le.mp ‹_›) | exact tp_u ‹_› | exact tp_j) | ((show @Eq Int _ _); first | exact tn_e ‹_› | exact tn_f ‹_› | exact tn_g ‹_› | exact tp_m ‹_› | exact tp_n ‹_› | exact tp_o ‹_› ‹_› | exact tp_w ‹_› ‹_› | exact tp_y) | exact tp_f ‹_› ‹_› | exact tp_f ‹_› | exact tp_f (Int.not_lt.mp ‹_›) | exact tp_t ‹_› ‹_› | exact Nat.ne_of_gt ‹_› | exact Nat.ne_of_lt ‹_› | exact Nat.ne_of_gt (Nat.lt_trans ‹_› ‹_›))
  k_with "m_sd1" => ((case k1 | k2 | k3 | k4 | k5 => assumption))
  k_with "m_sd2" => ((case kK => first | exact rfl | assumption); (case kd => first | (dsimp only [ktrTop, Around.deeper]; omega) | ktr_room); (case ku => first | (dsimp only [ktrTop, Around.deeper]; omega) | ktr_units))
  k_with "m_steps" => (repeat' (first | ((first | (k_unfold) | fail); (try dsimp only)) | (first | (k_extra "m_ret") | fail) | (first | (walk1) | fail) | (dsimp only; (first | (walk1) | fail)) | fail "no step"))
  k_with "m_call" => k_dflt ((first | (refine' GivesU.useM ?G ?k1 ?k2 ?k3 ?k4 ?k5 ?kK ?kd ?ku ?_; k_extra "m_sd1"; (case G => k_extra "m_conU"); k_extra "m_sd2"; intro r9 news9 h9 tk9 hR9 F9 N9; (try k_sweep); k_extra "m_openU" <;> ((try dsimp only); (try k_fold))) | fail))
  k_with "m_call" => k_dflt ((first | (refine' Gives.useM ?G ?k1 ?k2 ?k3 ?k4 ?k5 ?kK ?kd ?ku ?_; k_extra "m_sd1"; (case G => k_extra "m_con"); k_extra "m_sd2"; intro r9 h9 tk9 hR9 F9 N9; (try k_sweep); (k_extra "m_open"); ((try dsimp only); (try k_fold))) | fail))
  k_with "m_ne" => ((with_reducible refine ofs_ne ?_); simp only [ne_eq, String.reduceEq, not_false_eq_true]; done)
  k_with "m_look" => (first | k_dflt (exact rfl) | repeat (first | with_reducible exact look_here | with_reducible exact look_ithere | with_reducible refine Eq.trans (look_next (by k_extra "m_ne")) ?_ | with_reducible refine Eq.trans (look_itnext (by k_extra "m_ne")) ?_ | with_reducible refine Eq.trans (look_off (by k_extra "m_off")) ?_ | with_reducible refine Eq.trans look_nil ?_ | assumption | fail "m_look"))
  k_with "m_all" => ((try dsimp only); repeat (first | with_reducible exact all_nil | (with_reducible refine' all_cons _ _; (· k_extra "m_look")) | fail "m_all"))
  k_with "m_kind" => (first | kernel_rfl! | k_dflt (exact rfl) | repeat (first | with_reducible exact kind_here | with_reducible refine Eq.trans (kind_next (by k_extra "m_ne")) ?_ | fail "m_kind"))
  k_with "m_name" => (first | (with_reducible refine' ldK ?k1 ?k4 ?k2 ?k5 ?_; (case k4 => k_extra "m_kind"); (case k1 => first | assumption | k_dflt assumption); (case k2 => k_extra "m_look"); (case k5 => simp only [ne_eq, String.reduceEq, not_false_eq_true])) | fail)
  k_with "m_ev" => (with_reducible refine' ev_name ?k0 ?k1 ?k2 ?k5 ?k3 ?k6; (case k5 => k_extra "m_kind"); (case k0 => first | assumption | k_dflt assumption); (case k1 => assumption); (case k2 => assumption); (case k3 => k_dflt k_is); (case k6 => simp only [ne_eq, String.reduceEq, not_false_eq_true]))
  k_with "m_ev" => (with_reducible refine' ev_ld ?k1 ?k4 ?k2 ?k5; (case k4 => k_extra "m_kind"); (case k1 => first | assumption | k_dflt assumption); (case k2 => k_extra "m_look"); (case k5 => simp only [ne_eq, String.reduceEq, not_false_eq_true]))
  k_with "m_spl" => (with_reducible refine' args_ev ?zv1 ?_; (case zv1 => k_extra "m_ev"))
  k_with "m_spl" => (with_reducible first | (refine' args_ev1 ?zv1 ?_; (case zv1 => k_extra "m_ev")) | (refine' args_ev2 ?zv1 ?zv2 ?_; (case zv1 => k_extra "m_ev"); (case zv2 => k_extra "m_ev")) | (refine' args_ev3 ?zv1 ?zv2 ?zv3 ?_; (case zv1 => k_extra "m_ev"); (case zv2 => k_extra "m_ev"); (case zv3 => k_extra "m_ev")) | (refine' args_ev4 ?zv1 ?zv2 ?zv3 ?zv4 ?_; (case zv1 => k_extra "m_ev"); (case zv2 => k_extra "m_ev"); (case zv3 => k_extra "m_ev"); (case zv4 => k_extra "m_ev")))
  k_with "m_att" => (with_reducible refine' attr_ev ?zv1 ?_; (case zv1 => k_extra "m_ev"))
  k_with "m_cal" => (with_reducible refine' call_ev ?zv1 ?_; (case zv1 => k_extra "m_ev"))
  k_with "m_cam" => (with_reducible refine' method_ev ?zv1 ?_; (case zv1 => k_extra "m_ev"))
  k_with "m_ite" => (first | with_reducible refine ite_tt ?_ | with_reducible refine ite_ff ?_ | (with_reducible refine dec_pos ?c ?_; (case c => omega)) | (with_reducible refine dec_neg ?c ?_; (case c => omega)) | (with_reducible refine ine_pos ?c ?_; (case c => omega)) | (with_reducible refine ine_neg ?c ?_; (case c => omega)) | (with_reducible refine ieq_pos ?c ?_; (case c => omega)) | (with_reducible refine ieq_neg ?c ?_; (case c => omega)) | (with_reducible refine split_dec ?_ ?_ <;> intro _) | (with_reducible refine split_ine ?_ ?_ <;> intro _) | (with_reducible refine split_ieq ?_ ?_ <;> intro _))
  k_with "m_sub" => (intro q9 h9; repeat' (first | exact h9 | refine List.mem_append_left _ ?_ | refine List.mem_cons_of_mem _ ?_))
  k_with "m_view" => (first | assumption | exact ViewIn.mono (by assumption) (by k_extra "m_sub"))
  k_with "m_con" => ((with_reducible show Gives _ 43 _ _ _ _); exact begin_ok (by k_extra "m_view"))
  k_with "m_tab" => (first | assumption | exact TableIn.mono (by assumption) (by k_extra "m_sub"))
  k_with "m_open" => (rcases hR9 with ⟨i9, t9, rfl⟩)
  k_with "m_conU" => ((with_reducible show GivesU _ 537 _ _ _ _); exact spans_to_ok (by k_extra "m_view") (by k_extra "m_tab") (by assumption) (by omega) (by omega))
  k_with "m_conU" => ((with_reducible show GivesU _ 589 _ _ _ _); exact scan_new_ok)
  k_with "m_leave" => k_dflt (first | (refine' leave_pass ?hK FG9 rfl R9 U9 ?_; (case hK => assumption); intro h8 R8 U8; k_extra "m_esc") | fail)
  k_with "m_call" => k_dflt (first | (refine' GivesR.useM ?G ?k1 ?k2 ?k3 ?k4 ?k5 ?kK ?kd ?ku ?_ ?_; k_extra "m_sd1"; (case G => k_extra "m_conR"); k_extra "m_sd2"; rotate_left; (intro e9 dx9 nw9 G9 h9 tk9 msg9 g9 n9 hE9 hS9 hk9 FG9 R9 U9; k_extra "m_openE"); rotate_left; (intro r9 news9 h9 tk9 hR9 F9 N9; (try k_sweep); k_extra "m_openU" <;> ((try dsimp only); (try k_fold)))) | fail)
  k_with "m_call" => k_dflt (first | (refine' GivesR.useScB ?G ?k1 ?k2 ?k3 ?k4 ?k5 ?kK ?kd ?ku ?_ ?_; k_extra "m_sd1"; (case G => k_extra "m_conR"); k_extra "m_sd2"; rotate_left; (intro e9 dx9 nw9 G9 h9 tk9 msg9 g9 n9 hE9 hS9 hk9 FG9 R9 U9; k_extra "m_openE"); rotate_left; (intro o9 h9 tk9 hb9 ho9 F9 N9; (try k_sweep); (try k_extra "m_openSc"); (try dsimp only); (try k_fold))) | fail)
  k_with "m_openE" => skip
  k_with "m_scin" => first | assumption | exact ⟨_, _, _, _, _, _, _, _, _, _, _, _, _, _, _, _, _, _, _, _, _, _, rfl⟩
  k_with "m_sca" => first | assumption | exact ⟨by assumption, by assumption⟩
  k_with "m_conR" => ((with_reducible show GivesR _ 565 _ _ _ _ _ _); exact lost_ok (by k_extra "m_scin") (by k_extra "m_sca"))
  k_with "m_conR" => ((with_reducible show GivesR _ 649 _ _ _ _ _ _); exact step_backward_ok (by k_extra "m_view") (by k_extra "m_tab") (by assumption) (by k_mem) (by assumption) (by assumption) (by k_extra "m_scin") (by k_extra "m_sca") (by omega) (by omega))
  trivial
set_option maxHeartbeats 4000000 in
theorem backward_one_ok {w : World} {news : Led} {v tb : Addr} {cs : List Int} {p x n : Int} {syn : Kd → Addr} {t t2 : Tok} (hv : ViewIn news v cs p) (ht : TableIn w news tb syn) (hg : Sgns cs) (h0 : p ≤ x) (h1 : x ≤ p + cs.length) :
    GivesR w 656 9 [.ref v, .ref tb, .int x t, .int n t2, .bool false] news news (fun r n' => n' = news ∧ outR p (scB cs (if 0 < n then 0 else n) (x - p).toNat n (x - p).toNat) r)
      (outE p (scB cs (if 0 < n then 0 else n) (x - p).toNat n (x - p).toNat)) := (by exact qz : Qz _ (by
  obtain ⟨dx, lc, e1, e2, k1, k2, tt, vs, nn9, m1, m2, m3, hI, hlen, hp0, hp1⟩ := id hv
  generalize hl9 : (if 0 < n then 0 else n) = l
  k_with "m_openU" => (rcases hR9 with ⟨sc, sd, o9, rfl, rfl, ho9, l1, l2⟩; rw [hl9] at ho9; have l7 := fun q hq => Nat.ne_of_lt (l1 q hq))
  k_with "m_openU" => (rcases hR9 with ⟨hb9, rfl, o9, rfl, ho9⟩; have hc9 := id ho9; rcases ho9 with ⟨s1, s2, s3, s4, s5, s6, s7, s8, s9, u1, u2, u3, u4, u5, u6, u7, u8, u9, up, ud, ul, ug, rfl⟩)
  k_with "m_openSc" => (have hc9 := id ho9; rcases ho9 with ⟨s1, s2, s3, s4, s5, s6, s7, s8, s9, u1, u2, u3, u4, u5, u6, u7, u8, u9, up, ud, ul, ug, rfl⟩)
  k_with "m_openU" => exact (hR9 : False).elim
  k_with "m_openU" => (rcases hR9 with ⟨tp, cm, st, oc, os, rfl, rfl, hic, loc⟩)
  k_with "m_open8" => k_dflt (rcases ho8 with ⟨s1, s2, s3, s4, s5, s6, s7, s8, s9, u1, u2, u3, u4, u5, u6, u7, u8, u9, up, ud, ul, ug, rfl⟩)
  k_with "m_ret" => ((with_reducible refine' hret _ news _ _ ⟨rfl, ?_⟩ ?e2 ?e3); (case e2 => k_asm); (case e3 => exact cb_drop (by assumption) (by k_extra "m_sub")); (try k_extra "m_val"))
  k_with "m_while" => (first | (
    (rename Fr _ _ _ _ => lF); (rename News _ _ _ _ => lN)
    refine' w_while (fun c : Obj × Int × Int × Int => scL c.1 sc sd ((tp, tupO [.ref cm, .ref st]) :: (st, os) :: (cm, oc) :: news)) (fun c => [(Str.ofString "scan", .ref sc), (Str.ofString "view", .ref v), (Str.ofString "comments", .ref cm), (Str.ofString "strings", .ref st)]) (fun c => A5 (ScIn v tb c.2.1 c.2.2.1 l c.2.2.2 false c.1) (p ≤ c.2.1) (c.2.1 ≤ p + cs.length) (p ≤ c.2.2.2) (scB cs l (c.2.1 - p).toNat c.2.2.1 (c.2.2.2 - p).toNat = scB cs l (x - p).toNat n (x - p).toNat)) (fun c => (c.2.1 - p).toNat) (o9, x, n, x) lF lN ?kk ⟨ho9, h0, h1, h0, rfl⟩ ?_
    (case kk => k_extra "m_all")
    clear lF lN
    rintro ⟨o8, y, d, g⟩ u h tk ⟨ho8, y0, y1, y2, y3⟩ lF lN
    (try dsimp only at lF)
    (try dsimp only at lN)
    (try dsimp only at ho8)
    (try dsimp only at y0)
    (try dsimp only at y1)
    (try dsimp only at y2)
    (try dsimp only at y3)
    (try k_extra "m_open8")
    (try k_fold))              | fail)
  k_with "m_wend" => k_dflt (first | (refine' wEnd (_, y - 1, _, y) ?k1 ?k2 ?k3 ?k4 ?k5 ?k6; (case k1 => assumption); (case k2 => assumption); (case k4 => (first | (k_extra "m_all") | fail)); (case k3 => (first | (k_extra "m_sub") | fail)); (case k5 => (first | (exact ⟨scin_cast hc9 (by assumption), by dsimp only; omega, by dsimp only; omega, by dsimp only; omega, by have hq := scB_step (g := g) (by assumption) y1 hb9 (by assumption); rw [if_pos (by assumption)] at hq; exact hq.symm.trans y3⟩) | fail)); (case k6 => (first | (exact (by dsimp only; omega)) | fail))) | fail)
  k_with "m_wend" => k_dflt (first | (refine' wEnd (_, y - 1, _, g) ?k1 ?k2 ?k3 ?k4 ?k5 ?k6; (case k1 => assumption); (case k2 => assumption); (case k4 => (first | (k_extra "m_all") | fail)); (case k3 => (first | (k_extra "m_sub") | fail)); (case k5 => (first | (exact ⟨scin_cast hc9 (by assumption), by dsimp only; omega, by dsimp only; omega, by dsimp only; omega, by have hq := scB_step (g := g) (by assumption) y1 hb9 (by assumption); rw [if_neg (by assumption)] at hq; exact hq.symm.trans y3⟩) | fail)); (case k6 => (first | (exact (by dsimp only; omega)) | fail))) | fail)
  k_with "m_esc" => (rw [← y3, scB_bad (by assumption) y1 hE9.2.2.2] at hesc; exact hesc _ _ _ _ _ _ _ _ _ ⟨hE9.1, by first | exact tq_a (by assumption) (by assumption) hE9.2.1 | exact tq_b (by assumption) (by assumption) hE9.2.1 | omega, by first | exact hE9.2.2.1.trans (tn_g (by assumption)) | omega⟩ hS9 (fun q hq => hk9 q (.tail _ (.tail _ (.tail _ hq)))) (by assumption) R8 U8)
  k_with "m_esc" => (rw [← y3, scB_unb (by omega) (by assumption)] at hesc; exact hesc _ _ _ _ _ _ _ _ _ ⟨hE9.1, by first | exact hE9.2.1.trans (tn_e (by assumption)) | omega, by first | exact hE9.2.2.trans (tn_e (by assumption)) | omega⟩ hS9 (fun q hq => hk9 q (.tail _ (.tail _ (.tail _ hq)))) (by assumption) R8 U8)
  k_with "m_val" => (rw [← y3, scB_done (by assumption) y1 hb9 (by assumption)]; exact ⟨_, congrArg (fun z => Value.int z _) (by omega)⟩)
  k_with "m_val" => (rw [← y3, scB_off (by omega) (by assumption)]; exact rfl)
  constructor
  intro pF loF meF mgF mbF dp un gd cnF csF aF cdF clF outer A₀ base h₀ LF mF sF QF EF B F X N T hk hd hu hret hesc
  refine wpAny_call ?_
  k_dflt (refine' code_defK ([(Str.ofString "view", .ref v), (Str.ofString "table", .ref tb), (Str.ofString "at", .int x t), (Str.ofString "depth", .int n t2), (Str.ofString "is_expression", .bool false)]).reverse ?k1 ?k2 ?k3 ?k4 ?k5 ?kA ?kF ?kK ?k6 ?k7 ?k8 ?k9 ?kB ?_ ?c2 ?c3 ?c4 ?c5; (case kA => exact rfl); (case kF => exact rfl); (case kK => exact hk); (case k1 => exact B); (case k2 => exact F); (case k3 => exact X); (case k4 => exact N); (case k5 => exact T); (case k6 => k_is); (case k7 => k_is); (case k8 => ktr_room); (case k9 => first | exact BindsTo.of_eq rfl | exact binds_K (by k_in) rfl (by k_is) rfl rfl rfl); (case c5 => decide); (case kB => exact locs (by kernel_rfl!)); (case c2 => exact rfl); (case c3 => exact rfl); (case c4 => exact rfl); k_whole; intro g' L' h' FG' F' N' B' X' T'; (try dsimp only [List.reverse, List.reverseAux] at F'); (try dsimp only); (try k_fold); (try (show (let ak : Around := _; wpAny _ ak _ _ _ _)); intro ak))
  k_extra "m_steps"))
theorem u59 : True := by
  k_with_none
  k_with "m_om" => (with_reducible first | decide | assumption | ((show @LT.lt Nat _ _ _); first | exact rm_a ‹_› rfl | exact rm_b ‹_› rfl | exact rm_c ‹_› | exact rm_d ‹_› | exact tn_a ‹_› | exact tn_b ‹_› | exact tn_c ‹_› | exact tn_d ‹_› | exact rm_e ‹_› rfl | exact tp_d ‹_› | exact tp_e ‹_› ‹_› | exact tp_h ‹_› | exact tp_v ‹_› | exact tr_a ‹_›) | ((show @LE.le Nat _ _ _); first | exact tn_h ‹_› | exact tp_c ‹_› | exact tp_k ‹_› ‹_› | exact tp_l ‹_› ‹_› ‹_› | exact tp_x ‹_› ‹_› | exact Nat.le_trans ‹_› ‹_›) | ((show @LT.lt Int _ _ _); first | exact tn_m ‹_› | exact tn_n ‹_› | exact tp_p ‹_› ‹_› ‹_› ‹_› | exact tp_q ‹_› ‹_› ‹_› | exact Int.lt_of_toNat_lt ‹_› | exact Int.lt_of_lt_of_le ‹_› ‹_› | exact Int.sub_left_lt_of_lt_add ‹_› | exact tr_b ‹_›) | ((show @LE.le Int _ _ _); first | exact tn_i ‹_› | exact tn_j ‹_› | exact tn_k ‹_› | exact tn_l ‹_› | exact tn_o ‹_› | exact tp_i ‹_› ‹_› | exact tp_a ‹_› ‹_› | exact tp_a1 ‹_› ‹_› | exact tp_b ‹_› | exact tp_r ‹_› ‹_› | exact tp_s ‹_› | exact Int.le_of_lt (Int.not_le.mp ‹_›) | exact Int.sub_nonneg_of_le ‹_› | exact Int.sub_nonneg_of_le (tn_i ‹_›) | exact Int.le_add_of_nonneg_right (Int.natCast_nonneg _)) | ((show @Eq Nat _ _); first | exact tn_s ‹_› | exact tn_t ‹_› | exact (tn_s ‹_›).symm | exact tp_g ‹_› | exact tn_s (Int.not_le.mp ‹_›) | exact tp_u ‹_› | exact tp_j) | ((show @Eq Int _ _); first | exact tn_e ‹_› | exact tn_f ‹_› | exact tn_g ‹_› | exact tp_m ‹_› | exact tp_n ‹_› | exact tp_o ‹_› ‹_› | exact tp_w ‹_› ‹_› | exact tp_y) | exact tp_f ‹_› ‹_› | exact tp_f ‹_› | exact tp_f (Int.not_lt.mp ‹_›) | exact tp_t ‹_› ‹_› | exact Nat.ne_of_gt ‹_› | exact Nat.ne_of_lt ‹_› | exact Nat.ne_of_gt (Nat.lt_trans ‹_› ‹_›))
  k_with "m_sd1" => ((case k1 | k2 | k3 | k4 | k5 => assumption))
  k_with "m_sd2" => ((case kK => first | exact rfl | assumption); (case kd => first | (dsimp only [ktrTop, Around.deeper]; omega) | ktr_room); (case ku => first | (dsimp only [ktrTop, Around.deeper]; omega) | ktr_units))
  k_with "m_steps" => (repeat' (first | ((first | (k_unfold) | fail); (try dsimp only)) | (first | (k_extra "m_ret") | fail) | (first | (walk1) | fail) | (dsimp only; (first | (walk1) | fail)) | fail "no step"))
  k_with "m_ne" => ((with_reducible refine ofs_ne ?_); simp only [ne_eq, String.reduceEq, not_false_eq_true]; done)
  k_with "m_look" => (first | k_dflt (exact rfl) | repeat (first | with_reducible exact look_here | with_reducible exact look_ithere | with_reducible refine Eq.trans (look_next (by k_extra "m_ne")) ?_ | with_reducible refine Eq.trans (look_itnext (by k_extra "m_ne")) ?_ | with_reducible refine Eq.trans (look_off (by k_extra "m_off")) ?_ | with_reducible refine Eq.trans look_nil ?_ | assumption | fail "m_look"))
  k_with "m_kind" => (first | kernel_rfl! | k_dflt (exact rfl) | repeat (first | with_reducible exact kind_here | with_reducible refine Eq.trans (kind_next (by k_extra "m_ne")) ?_ | fail "m_kind"))
  k_with "m_ev" => (with_reducible refine' ev_name ?k0 ?k1 ?k2 ?k5 ?k3 ?k6; (case k5 => k_extra "m_kind"); (case k0 => first | assumption | k_dflt assumption); (case k1 => assumption); (case k2 => assumption); (case k3 => k_dflt k_is); (case k6 => simp only [ne_eq, String.reduceEq, not_false_eq_true]))
  k_with "m_ev" => (with_reducible refine' ev_ld ?k1 ?k4 ?k2 ?k5; (case k4 => k_extra "m_kind"); (case k1 => first | assumption | k_dflt assumption); (case k2 => k_extra "m_look"); (case k5 => simp only [ne_eq, String.reduceEq, not_false_eq_true]))
  k_with "m_spl" => (with_reducible refine' args_ev ?zv1 ?_; (case zv1 => k_extra "m_ev"))
  k_with "m_spl" => (with_reducible first | (refine' args_ev1 ?zv1 ?_; (case zv1 => k_extra "m_ev")) | (refine' args_ev2 ?zv1 ?zv2 ?_; (case zv1 => k_extra "m_ev"); (case zv2 => k_extra "m_ev")) | (refine' args_ev3 ?zv1 ?zv2 ?zv3 ?_; (case zv1 => k_extra "m_ev"); (case zv2 => k_extra "m_ev"); (case zv3 => k_extra "m_ev")) | (refine' args_ev4 ?zv1 ?zv2 ?zv3 ?zv4 ?_; (case zv1 => k_extra "m_ev"); (case zv2 => k_extra "m_ev"); (case zv3 => k_extra "m_ev"); (case zv4 => k_extra "m_ev")))
  k_with "m_cal" => (with_reducible refine' call_ev ?zv1 ?_; (case zv1 => k_extra "m_ev"))
  k_with "m_bin" => (with_reducible (first | (refine' bin_ev2 ?zv1 ?zv2 ?_; (case zv1 => k_extra "m_ev"); (case zv2 => k_extra "m_ev")) | (refine' bin_ei ?zv1 ?_; (case zv1 => k_extra "m_ev")) | (refine' bin_ev ?zv1 ?_; (case zv1 => k_extra "m_ev"))))
  k_with "m_itc" => (with_reducible (first | (refine' itc_ev2 ?zv1 ?zv2 ?_; (case zv1 => k_extra "m_ev"); (case zv2 => k_extra "m_ev")) | (refine' itc_ei ?zv1 ?_; (case zv1 => k_extra "m_ev")) | (refine' itc_ev ?zv1 ?_; (case zv1 => k_extra "m_ev"))))
  k_with "m_rete" => (with_reducible refine' ret_ev ?zv1 ?_; (case zv1 => k_extra "m_ev"))
  k_with "m_ite" => (first | with_reducible refine ite_tt ?_ | with_reducible refine ite_ff ?_ | (with_reducible refine dec_pos ?c ?_; (case c => omega)) | (with_reducible refine dec_neg ?c ?_; (case c => omega)) | (with_reducible refine ine_pos ?c ?_; (case c => omega)) | (with_reducible refine ine_neg ?c ?_; (case c => omega)) | (with_reducible refine ieq_pos ?c ?_; (case c => omega)) | (with_reducible refine ieq_neg ?c ?_; (case c => omega)) | (with_reducible refine split_dec ?_ ?_ <;> intro _) | (with_reducible refine split_ine ?_ ?_ <;> intro _) | (with_reducible refine split_ieq ?_ ?_ <;> intro _))
  k_with "m_sub" => (intro q9 h9; repeat' (first | exact h9 | refine List.mem_append_left _ ?_ | refine List.mem_cons_of_mem _ ?_))
  k_with "m_view" => (first | assumption | exact ViewIn.mono (by assumption) (by k_extra "m_sub"))
  k_with "m_tab" => (first | assumption | exact TableIn.mono (by assumption) (by k_extra "m_sub"))
  k_with "m_leave" => k_dflt (first | (refine' leave_pass ?hK FG9 rfl R9 U9 ?_; (case hK => assumption); intro h8 R8 U8; k_extra "m_esc") | fail)
  k_with "m_call" => k_dflt (first | (refine' GivesR.useM ?G ?k1 ?k2 ?k3 ?k4 ?k5 ?kK ?kd ?ku ?_ ?_; k_extra "m_sd1"; (case G => k_extra "m_conR"); k_extra "m_sd2"; rotate_left; (intro e9 dx9 nw9 G9 h9 tk9 msg9 g9 n9 hE9 hS9 hk9 FG9 R9 U9; k_extra "m_openE"); rotate_left; (intro r9 news9 h9 tk9 hR9 F9 N9; (try k_sweep); k_extra "m_openU" <;> ((try dsimp only); (try k_fold)))) | fail)
  k_with "m_openE" => skip
  k_with "m_conR" => ((with_reducible show GivesR _ 628 _ _ _ _ _ _); exact forward_one_ok (by k_extra "m_view") (by k_extra "m_tab") (by assumption) (by omega) (by omega))
  k_with "m_conR" => ((with_reducible show GivesR _ 656 _ _ _ _ _ _); exact backward_one_ok (by k_extra "m_view") (by k_extra "m_tab") (by assumption) (by omega) (by omega))
  trivial
set_option maxHeartbeats 4000000 in
theorem scan_by_ok {w : World} {news : Led} {v tb : Addr} {cs : List Int} {p x n e : Int} {syn : Kd → Addr} {t t2 t3 : Tok} (hv : ViewIn news v cs p) (ht : TableIn w news tb syn) (hg : Sgns cs) (h0 : p ≤ x) (h1 : x ≤ p + cs.length) :
    GivesR w 663 10 [.ref v, .ref tb, .int x t, .int n t2, .int e t3, .bool false] news news (fun r n' => n' = news ∧ outR p (scG cs (x - p).toNat n e) r) (outE p (scG cs (x - p).toNat n e)) := (by exact qz : Qz _ (by
  k_with "m_all" => ((try dsimp only [optV]); repeat (first | with_reducible exact all_nil | (with_reducible refine' all_cons _ _; (· k_extra "m_look")) | fail "m_all"))
  k_with "m_openU" => (rcases hR9 with ⟨rfl, ho9⟩; rcases outR_cases ho9 with ⟨j9, t9, hj9, rfl⟩ | ⟨hj9, rfl⟩)
  k_with "m_open8" => k_dflt ((rcases a8 with _ | ⟨y, ty⟩) <;> (dsimp only [optV] at lF; dsimp only [byP] at ho8; (try obtain ⟨y0, y1, y2⟩ := ho8); (try k_fold)))
  k_with "m_open8" => k_dflt ((rcases a7 with _ | ⟨z, tz⟩) <;> (dsimp only [optV] at lF; dsimp only [byP] at ho7; (try obtain ⟨z0, z1, z2⟩ := ho7); (try k_fold)))
  k_with "m_ret" => ((with_reducible refine' hret _ news _ _ ⟨rfl, ?_⟩ ?e2 ?e3); (case e2 => k_asm); (case e3 => k_asm); (try k_extra "m_val"))
  k_with "m_while" => (first | (
    (rename Fr _ _ _ _ => lF); (rename News _ _ _ _ => lN)
    refine' w_while (fun _ : Option (Int × Tok) × Int × Tok × Int × Tok => news) (fun c => [(Str.ofString "at", optV c.1), (Str.ofString "count", .int c.2.1 c.2.2.1), (Str.ofString "depth", .int c.2.2.2.1 c.2.2.2.2), (Str.ofString "view", .ref v), (Str.ofString "table", .ref tb), (Str.ofString "is_expression", .bool false)]) (fun c => byP cs p c.1 c.2.1 c.2.2.2.1 (scG cs (x - p).toNat n e)) (fun c => c.2.1.toNat) (some (x, t), n, t2, e, t3) lF lN ?kk ⟨h0, h1, rfl⟩ ?_
    (case kk => k_extra "m_all")
    clear lF lN
    rintro ⟨a8, c, tc, d, td⟩ u h tk ho8 lF lN
    (try dsimp only at lF)
    (try dsimp only at lN)
    (try k_extra "m_open8")
    (try k_fold))              | fail)
  k_with "m_while" => (first | (
    (rename Fr _ _ _ _ => lF); (rename News _ _ _ _ => lN)
    refine' w_while (fun _ : Option (Int × Tok) × Int × Tok × Int × Tok => news) (fun c => [(Str.ofString "at", optV c.1), (Str.ofString "count", .int c.2.1 c.2.2.1), (Str.ofString "depth", .int c.2.2.2.1 c.2.2.2.2), (Str.ofString "view", .ref v), (Str.ofString "table", .ref tb), (Str.ofString "is_expression", .bool false)]) (fun c => A2 (byP cs p c.1 c.2.1 c.2.2.2.1 (scG cs (x - p).toNat n e)) (∀ q, c.1 = some q → c.2.1 ≤ 0)) (fun c => (- c.2.1).toNat) (none, c, tc, d, td) lF lN ?kk ⟨ho8, fun _ h => nomatch h⟩ ?_
    (case kk => k_extra "m_all")
    clear lF lN
    rintro ⟨a7, c7, tc7, d7, td7⟩ u h tk ⟨ho7, hc7⟩ lF lN
    (try dsimp only at lF)
    (try dsimp only at lN)
    (try dsimp only at ho7)
    (try dsimp only at hc7)
    (try k_extra "m_open8")
    (try k_fold))              | fail)
  k_with "m_while" => (first | (
    (rename Fr _ _ _ _ => lF); (rename News _ _ _ _ => lN)
    refine' w_while (fun _ : Option (Int × Tok) × Int × Tok × Int × Tok => news) (fun c => [(Str.ofString "at", optV c.1), (Str.ofString "count", .int c.2.1 c.2.2.1), (Str.ofString "depth", .int c.2.2.2.1 c.2.2.2.2), (Str.ofString "view", .ref v), (Str.ofString "table", .ref tb), (Str.ofString "is_expression", .bool false)]) (fun c => A2 (byP cs p c.1 c.2.1 c.2.2.2.1 (scG cs (x - p).toNat n e)) (∀ q, c.1 = some q → c.2.1 ≤ 0)) (fun c => (- c.2.1).toNat) (some (y, ty), c, tc, d, td) lF lN ?kk ⟨⟨y0, y1, y2⟩, fun _ _ => by dsimp only; omega⟩ ?_
    (case kk => k_extra "m_all")
    clear lF lN
    rintro ⟨a7, c7, tc7, d7, td7⟩ u h tk ⟨ho7, hc7⟩ lF lN
    (try dsimp only at lF)
    (try dsimp only at lN)
    (try dsimp only at ho7)
    (try dsimp only at hc7)
    (try k_extra "m_open8")
    (try k_fold))              | fail)
  k_with "m_wend" => k_dflt (first | (refine' wEnd (some (p + (j9 : Int), _), c - 1, _, 0, _) ?k1 ?k2 ?k3 ?k4 ?k5 ?k6; (case k1 => assumption); (case k2 => assumption); (case k4 => (first | (k_extra "m_all") | fail)); (case k3 => (first | (k_extra "m_sub") | fail)); (case k5 => (first | (exact ⟨by dsimp only; omega, by have := scF_le hj9; dsimp only; omega, by dsimp only; rw [rel_nat]; exact (scG_up (by assumption) hj9).symm.trans y2⟩) | fail)); (case k6 => (first | (exact (by dsimp only; omega)) | fail))) | fail)
  k_with "m_wend" => k_dflt (first | (refine' wEnd (none, c - 1, _, 0, _) ?k1 ?k2 ?k3 ?k4 ?k5 ?k6; (case k1 => assumption); (case k2 => assumption); (case k4 => (first | (k_extra "m_all") | fail)); (case k3 => (first | (k_extra "m_sub") | fail)); (case k5 => (first | (exact y2.symm.trans (scG_up_off (by assumption) hj9)) | fail)); (case k6 => (first | (exact (by dsimp only; omega)) | fail))) | fail)
  k_with "m_wend" => k_dflt (first | (refine' wEnd (some (p + (j9 : Int), _), c7 + 1, _, 0, _) ?k1 ?k2 ?k3 ?k4 ?k5 ?k6; (case k1 => assumption); (case k2 => assumption); (case k4 => (first | (k_extra "m_all") | fail)); (case k3 => (first | (k_extra "m_sub") | fail)); (case k5 => (first | (exact ⟨⟨by dsimp only; omega, by have := scB_le hj9; dsimp only; omega, by dsimp only; rw [rel_nat]; exact (scG_dn (by assumption) hj9).symm.trans z2⟩, fun _ _ => by dsimp only; omega⟩) | fail)); (case k6 => (first | (exact (by dsimp only; omega)) | fail))) | fail)
  k_with "m_wend" => k_dflt (first | (refine' wEnd (none, c7 + 1, _, 0, _) ?k1 ?k2 ?k3 ?k4 ?k5 ?k6; (case k1 => assumption); (case k2 => assumption); (case k4 => (first | (k_extra "m_all") | fail)); (case k3 => (first | (k_extra "m_sub") | fail)); (case k5 => (first | (exact ⟨z2.symm.trans (scG_dn_off (by assumption) hj9), fun _ h => nomatch h⟩) | fail)); (case k6 => (first | (exact (by dsimp only; omega)) | fail))) | fail)
  k_with "m_esc" => (first | (exact hesc _ _ _ _ _ _ _ _ _ (by rw [← y2]; exact scG_up_err (by assumption) hE9) hS9 hk9 (by assumption) R8 U8) | fail)
  k_with "m_esc" => (first | (exact hesc _ _ _ _ _ _ _ _ _ (by rw [← z2]; exact scG_dn_err (by assumption) hE9) hS9 hk9 (by assumption) R8 U8) | fail)
  k_with "m_val" => (rw [← z2, scG_end (by have := hc7 _ rfl; omega)]; exact ⟨_, congrArg (fun z => Value.int z _) (by omega)⟩)
  k_with "m_val" => (rw [ho7]; exact rfl)
  constructor
  intro pF loF meF mgF mbF dp un gd cnF csF aF cdF clF outer A₀ base h₀ LF mF sF QF EF B F X N T hk hd hu hret hesc
  refine wpAny_call ?_
  k_dflt (refine' code_defK ([(Str.ofString "view", .ref v), (Str.ofString "table", .ref tb), (Str.ofString "at", .int x t), (Str.ofString "count", .int n t2), (Str.ofString "depth", .int e t3), (Str.ofString "is_expression", .bool false)]).reverse ?k1 ?k2 ?k3 ?k4 ?k5 ?kA ?kF ?kK ?k6 ?k7 ?k8 ?k9 ?kB ?_ ?c2 ?c3 ?c4 ?c5; (case kA => exact rfl); (case kF => exact rfl); (case kK => exact hk); (case k1 => exact B); (case k2 => exact F); (case k3 => exact X); (case k4 => exact N); (case k5 => exact T); (case k6 => k_is); (case k7 => k_is); (case k8 => ktr_room); (case k9 => first | exact BindsTo.of_eq rfl | exact binds_K (by k_in) rfl (by k_is) rfl rfl rfl); (case c5 => decide); (case kB => exact locs (by kernel_rfl!)); (case c2 => exact rfl); (case c3 => exact rfl); (case c4 => exact rfl); k_whole; intro g' L' h' FG' F' N' B' X' T'; (try dsimp only [List.reverse, List.reverseAux] at F'); (try dsimp only); (try k_fold); (try (show (let ak : Around := _; wpAny _ ak _ _ _ _)); intro ak))
  k_extra "m_steps"))
theorem u60 : True := by
  k_with_none
  k_with "m_om" => (with_reducible first | decide | assumption | ((show @LT.lt Nat _ _ _); first | exact rm_a ‹_› rfl | exact rm_b ‹_› rfl | exact rm_c ‹_› | exact rm_d ‹_› | exact tn_a ‹_› | exact tn_b ‹_› | exact tn_c ‹_› | exact tn_d ‹_› | exact rm_e ‹_› rfl | exact tp_d ‹_› | exact tp_e ‹_› ‹_› | exact tp_h ‹_› | exact tp_v ‹_› | exact tr_a ‹_›) | ((show @LE.le Nat _ _ _); first | exact tn_h ‹_› | exact tp_c ‹_› | exact tp_k ‹_› ‹_› | exact tp_l ‹_› ‹_› ‹_› | exact tp_x ‹_› ‹_› | exact Nat.le_trans ‹_› ‹_›) | ((show @LT.lt Int _ _ _); first | exact tn_m ‹_› | exact tn_n ‹_› | exact tp_p ‹_› ‹_› ‹_› ‹_› | exact tp_q ‹_› ‹_› ‹_› | exact Int.lt_of_toNat_lt ‹_› | exact Int.lt_of_lt_of_le ‹_› ‹_› | exact Int.sub_left_lt_of_lt_add ‹_› | exact tr_b ‹_›) | ((show @LE.le Int _ _ _); first | exact tn_i ‹_› | exact tn_j ‹_› | exact tn_k ‹_› | exact tn_l ‹_› | exact tn_o ‹_› | exact tp_i ‹_› ‹_› | exact tp_a ‹_› ‹_› | exact tp_a1 ‹_› ‹_› | exact tp_b ‹_› | exact tp_r ‹_› ‹_› | exact tp_s ‹_› | exact Int.le_of_lt (Int.not_le.mp ‹_›) | exact Int.sub_nonneg_of_le ‹_› | exact Int.sub_nonneg_of_le (tn_i ‹_›) | exact Int.le_add_of_nonneg_right (Int.natCast_nonneg _)) | ((show @Eq Nat _ _); first | exact tn_s ‹_› | exact tn_t ‹_› | exact (tn_s ‹_›).symm | exact tp_g ‹_› | exact tn_s (Int.not_le.mp ‹_›) | exact tp_u ‹_› | exact tp_j) | ((show @Eq Int _ _); first | exact tn_e ‹_› | exact tn_f ‹_› | exact tn_g ‹_› | exact tp_m ‹_› | exact tp_n ‹_› | exact tp_o ‹_› ‹_› | exact tp_w ‹_› ‹_› | exact tp_y) | exact tp_f ‹_› ‹_› | exact tp_f ‹_› | exact tp_f (Int.not_lt.mp ‹_›) | exact tp_t ‹_› ‹_› | exact Nat.ne_of_gt ‹_› | exact Nat.ne_of_lt ‹_› | exact Nat.ne_of_gt (Nat.lt_trans ‹_› ‹_›))
  k_with "m_sd1" => ((case k1 | k2 | k3 | k4 | k5 => assumption))
  k_with "m_sd2" => ((case kK => first | exact rfl | assumption); (case kd => first | (dsimp only [ktrTop, Around.deeper]; omega) | ktr_room); (case ku => first | (dsimp only [ktrTop, Around.deeper]; omega) | ktr_units))
  k_with "m_steps" => (repeat' (first | ((first | (k_unfold) | fail); (try dsimp only)) | (first | (k_extra "m_ret") | fail) | (first | (walk1) | fail) | (dsimp only; (first | (walk1) | fail)) | fail "no step"))
  k_with "m_ret" => ((with_reducible refine' hret _ _ _ _ ?_ ?e2 ?e3); (case e2 => k_asm); (case e3 => k_asm); (try k_extra "m_val"))
  k_with "m_ne" => ((with_reducible refine ofs_ne ?_); simp only [ne_eq, String.reduceEq, not_false_eq_true]; done)
  k_with "m_look" => (first | k_dflt (exact rfl) | repeat (first | with_reducible exact look_here | with_reducible exact look_ithere | with_reducible refine Eq.trans (look_next (by k_extra "m_ne")) ?_ | with_reducible refine Eq.trans (look_itnext (by k_extra "m_ne")) ?_ | with_reducible refine Eq.trans (look_off (by k_extra "m_off")) ?_ | with_reducible refine Eq.trans look_nil ?_ | assumption | fail "m_look"))
  k_with "m_kind" => (first | kernel_rfl! | k_dflt (exact rfl) | repeat (first | with_reducible exact kind_here | with_reducible refine Eq.trans (kind_next (by k_extra "m_ne")) ?_ | fail "m_kind"))
  k_with "m_ev" => (with_reducible refine' ev_name ?k0 ?k1 ?k2 ?k5 ?k3 ?k6; (case k5 => k_extra "m_kind"); (case k0 => first | assumption | k_dflt assumption); (case k1 => assumption); (case k2 => assumption); (case k3 => k_dflt k_is); (case k6 => simp only [ne_eq, String.reduceEq, not_false_eq_true]))
  k_with "m_ev" => (with_reducible refine' ev_ld ?k1 ?k4 ?k2 ?k5; (case k4 => k_extra "m_kind"); (case k1 => first | assumption | k_dflt assumption); (case k2 => k_extra "m_look"); (case k5 => simp only [ne_eq, String.reduceEq, not_false_eq_true]))
  k_with "m_spl" => (with_reducible refine' args_ev ?zv1 ?_; (case zv1 => k_extra "m_ev"))
  k_with "m_cal" => (with_reducible refine' call_ev ?zv1 ?_; (case zv1 => k_extra "m_ev"))
  k_with "m_view" => (first | assumption | exact ViewIn.mono (by assumption) (by k_extra "m_sub"))
  k_with "m_tab" => (first | assumption | exact TableIn.mono (by assumption) (by k_extra "m_sub"))
  k_with "m_leave" => k_dflt (first | (refine' leave_pass ?hK FG9 rfl R9 U9 ?_; (case hK => assumption); intro h8 R8 U8; k_extra "m_esc") | fail)
  k_with "m_call" => k_dflt (first | (refine' GivesR.useM ?G ?k1 ?k2 ?k3 ?k4 ?k5 ?kK ?kd ?ku ?_ ?_; k_extra "m_sd1"; (case G => k_extra "m_conR"); k_extra "m_sd2"; rotate_left; (intro e9 dx9 nw9 G9 h9 tk9 msg9 g9 n9 hE9 hS9 hk9 FG9 R9 U9; k_extra "m_openE"); rotate_left; (intro r9 news9 h9 tk9 hR9 F9 N9; (try k_sweep); k_extra "m_openU" <;> ((try dsimp only); (try k_fold)))) | fail)
  k_with "m_openE" => skip
  k_with "m_conR" => ((with_reducible show GivesR _ 663 _ _ _ _ _ _); exact scan_by_ok (by k_extra "m_view") (by k_extra "m_tab") (by assumption) (by omega) (by omega))
  trivial
set_option maxHeartbeats 4000000 in
theorem scan_lists_ok {w : World} {news : Led} {v tb : Addr} {cs : List Int} {p x n e : Int} {syn : Kd → Addr} {t t2 t3 : Tok} (hv : ViewIn news v cs p) (ht : TableIn w news tb syn) (hg : Sgns cs) (h0 : p ≤ x) (h1 : x ≤ p + cs.length) :
    GivesR w 670 11 [.ref v, .ref tb, .int x t, .int n t2, .int e t3] news news (fun r n' => n' = news ∧ outR p (scG cs (x - p).toNat n e) r) (outE p (scG cs (x - p).toNat n e)) := (by exact qz : Qz _ (by
  k_with "m_openU" => (rcases hR9 with ⟨rfl, ho9⟩)
  k_with "m_esc" => exact hesc _ _ _ _ _ _ _ _ _ hE9 hS9 hk9 (by assumption) R8 U8
  k_with "m_val" => exact ⟨rfl, ho9⟩
  constructor
  intro pF loF meF mgF mbF dp un gd cnF csF aF cdF clF outer A₀ base h₀ LF mF sF QF EF B F X N T hk hd hu hret hesc
  refine wpAny_call ?_
  k_dflt (refine' code_defK ([(Str.ofString "view", .ref v), (Str.ofString "table", .ref tb), (Str.ofString "at", .int x t), (Str.ofString "count", .int n t2), (Str.ofString "depth", .int e t3)]).reverse ?k1 ?k2 ?k3 ?k4 ?k5 ?kA ?kF ?kK ?k6 ?k7 ?k8 ?k9 ?kB ?_ ?c2 ?c3 ?c4 ?c5; (case kA => exact rfl); (case kF => exact rfl); (case kK => exact hk); (case k1 => exact B); (case k2 => exact F); (case k3 => exact X); (case k4 => exact N); (case k5 => exact T); (case k6 => k_is); (case k7 => k_is); (case k8 => ktr_room); (case k9 => first | exact BindsTo.of_eq rfl | exact binds_K (by k_in) rfl (by k_is) rfl rfl rfl); (case c5 => decide); (case kB => exact locs (by kernel_rfl!)); (case c2 => exact rfl); (case c3 => exact rfl); (case c4 => exact rfl); k_whole; intro g' L' h' FG' F' N' B' X' T'; (try dsimp only [List.reverse, List.reverseAux] at F'); (try dsimp only); (try k_fold); (try (show (let ak : Around := _; wpAny _ ak _ _ _ _)); intro ak))
  k_extra "m_steps"))
theorem u61 : True := by
  k_with_none
  k_with "m_om" => (with_reducible first | decide | assumption | ((show @LT.lt Nat _ _ _); first | exact rm_a ‹_› rfl | exact rm_b ‹_› rfl | exact rm_c ‹_› | exact rm_d ‹_› | exact tn_a ‹_› | exact tn_b ‹_› | exact tn_c ‹_› | exact tn_d ‹_› | exact rm_e ‹_› rfl | exact tp_d ‹_› | exact tp_e ‹_› ‹_› | exact tp_h ‹_› | exact tp_v ‹_› | exact tr_a ‹_›) | ((show @LE.le Nat _ _ _); first | exact tn_h ‹_› | exact tp_c ‹_› | exact tp_k ‹_› ‹_› | exact tp_l ‹_› ‹_› ‹_› | exact tp_x ‹_› ‹_› | exact Nat.le_trans ‹_› ‹_›) | ((show @LT.lt Int _ _ _); first | exact tn_m ‹_› | exact tn_n ‹_› | exact tp_p ‹_› ‹_› ‹_› ‹_› | exact tp_q ‹_› ‹_› ‹_› | exact Int.lt_of_toNat_lt ‹_› | exact Int.lt_of_lt_of_le ‹_› ‹_› | exact Int.sub_left_lt_of_lt_add ‹_› | exact tr_b ‹_›) | ((show @LE.le Int _ _ _); first | exact tn_i ‹_› | exact tn_j ‹_› | exact tn_k ‹_› | exact tn_l ‹_› | exact tn_o ‹_› | exact tp_i ‹_› ‹_› | exact tp_a ‹_› ‹_› | exact tp_a1 ‹_› ‹_› | exact tp_b ‹_› | exact tp_r ‹_› ‹_› | exact tp_s ‹_› | exact Int.le_of_lt (Int.not_le.mp ‹_›) | exact Int.sub_nonneg_of_le ‹_› | exact Int.sub_nonneg_of_le (tn_i ‹_›) | exact Int.le_add_of_nonneg_right (Int.natCast_nonneg _)) | ((show @Eq Nat _ _); first | exact tn_s ‹_› | exact tn_t ‹_› | exact (tn_s ‹_›).symm | exact tp_g ‹_› | exact tn_s (Int.not_le.mp ‹_›) | exact tp_u ‹_› | exact tp_j) | ((show @Eq Int _ _); first | exact tn_e ‹_› | exact tn_f ‹_› | exact tn_g ‹_› | exact tp_m ‹_› | exact tp_n ‹_› | exact tp_o ‹_› ‹_› | exact tp_w ‹_› ‹_› | exact tp_y) | exact tp_f ‹_› ‹_› | exact tp_f ‹_› | exact tp_f (Int.not_lt.mp ‹_›) | exact tp_t ‹_› ‹_› | exact Nat.ne_of_gt ‹_› | exact Nat.ne_of_lt ‹_› | exact Nat.ne_of_gt (Nat.lt_trans ‹_› ‹_›))
  k_with "m_sd1" => ((case k1 | k2 | k3 | k4 | k5 => assumption))
  k_with "m_sd2" => ((case kK => first | exact rfl | assumption); (case kd => first | (dsimp only [ktrTop, Around.deeper]; omega) | ktr_room); (case ku => first | (dsimp only [ktrTop, Around.deeper]; omega) | ktr_units))
  k_with "m_steps" => (repeat' (first | ((first | (k_unfold) | fail); (try dsimp only)) | (first | (k_extra "m_ret") | fail) | (first | (walk1) | fail) | (dsimp only; (first | (walk1) | fail)) | fail "no step"))
  k_with "m_look" => (first | k_dflt (exact rfl) | repeat (first | with_reducible exact look_here | with_reducible exact look_ithere | with_reducible refine Eq.trans (look_next (by k_extra "m_ne")) ?_ | with_reducible refine Eq.trans (look_itnext (by k_extra "m_ne")) ?_ | with_reducible refine Eq.trans (look_off (by k_extra "m_off")) ?_ | with_reducible refine Eq.trans look_nil ?_ | assumption | fail "m_look"))
  k_with "m_kind" => (first | kernel_rfl! | k_dflt (exact rfl) | repeat (first | with_reducible exact kind_here | with_reducible refine Eq.trans (kind_next (by k_extra "m_ne")) ?_ | fail "m_kind"))
  k_with "m_ev" => (with_reducible refine' ev_ld ?k1 ?k4 ?k2 ?k5; (case k4 => k_extra "m_kind"); (case k1 => first | assumption | k_dflt assumption); (case k2 => k_extra "m_look"); (case k5 => simp only [ne_eq, String.reduceEq, not_false_eq_true]))
  k_with "m_att" => (with_reducible refine' attr_ev ?zv1 ?_; (case zv1 => k_extra "m_ev"))
  k_with "m_cal" => (with_reducible refine' call_ev ?zv1 ?_; (case zv1 => k_extra "m_ev"))
  k_with "m_call" => k_dflt (first | (refine' GivesR.useM ?G ?k1 ?k2 ?k3 ?k4 ?k5 ?kK ?kd ?ku ?_ ?_; k_extra "m_sd1"; (case G => k_extra "m_conR"); k_extra "m_sd2"; rotate_left; (intro e9 dx9 nw9 G9 h9 tk9 msg9 g9 n9 hE9 hS9 hk9 FG9 R9 U9; k_extra "m_openE"); rotate_left; (intro r9 news9 h9 tk9 hR9 F9 N9; (try k_sweep); k_extra "m_openU" <;> ((try dsimp only); (try k_fold)))) | fail)
  trivial
def ToldR (kp : Led) (R : Value → Led → Prop) (Er : Str → Int → Int → Prop) (r : Value) (n' : Led) : Prop :=
  (∃ lt v n0 t c, r = .ref lt ∧ n' = (lt, listOf [.str (Str.ofString "told") t, v].toArray c) :: n0 ∧ R v n0) ∨
  (∃ lt lst t t0 t1 t2 t3 c c2 msg g n, r = .ref lt ∧ n' = (lt, listOf [.str (Str.ofString "refused") t, .str (Str.ofString "scan-error") t0, .ref lst].toArray c) :: (lst, listOf [.str msg t1, .int g t2, .int n t3].toArray c2) :: kp ∧ Er msg g n)
set_option maxHeartbeats 4000000 in
theorem told_ok {w : World} {news kp : Led} {f : Addr} {d : Nat} {R : Value → Led → Prop} {Er : Str → Int → Int → Prop} {fo : Obj} {fd : FuncData} (G : GivesR w f d [] news kp R Er) (hm : (f, fo) ∈ news) (hfd : fo.data = .func fd) :
    GivesT w 722 (d + 3) [.ref f] news (ToldR kp R Er) := (by exact qz : Qz _ (by
  obtain ⟨oc9, od9, dt9, sl9⟩ := fo
  dsimp only at hfd
  subst hfd
  k_with "m_cw" => k_dflt (first | (refine' callWith_F0 (FnAt.of ?zN9 hm) ?_; (case zN9 => assumption)) | fail)
  k_with "m_conR" => assumption
  k_with "m_openU" => skip
  k_with "m_openE" => (rcases hS9 with ⟨od9, lst9, t09, t19, t29, t39, c9, sa9, sb9, sc9⟩)
  k_with "m_leaveT" => k_dflt (first | (refine ⟨_, _, _, _, .refl, by assumption, by assumption, ?_⟩; intro h1 T1 F1 N1 B1 X1 P1 D1; exact hret _ _ _ _ _ (.inl ⟨_, _, _, _, _, rfl, rfl, hR9⟩) T1 F1 N1 B1 X1 P1 D1) | fail)
  k_with "m_leaveT" => k_dflt (first | (refine ⟨g8, _, _, (_, listOf [.str (Str.ofString "refused") _, .str (Str.ofString "scan-error") t09, .ref lst9].toArray _) :: (lst9, listOf [.str msg9 t19, .int g9 t29, .int n9 t39].toArray c9) :: kp, T8, by assumption, cb_drop (by assumption) (List.forall_mem_cons.mpr ⟨List.Mem.head _, List.forall_mem_cons.mpr ⟨.tail _ (.tail _ sc9), fun q hq => .tail _ (.tail _ (hk9 q hq))⟩⟩), ?_⟩; intro h1 T1 F1 N1 B1 X1 P1 D1; exact hret _ _ _ _ _ (.inr ⟨_, _, _, _, _, _, _, _, _, _, _, _, rfl, rfl, hE9⟩) T1 F1 N1 B1 X1 P1 D1) | fail)
  k_with "m_catch" => k_dflt (first | (obtain ⟨Nc9, Y9⟩ := @exc129 w; refine' caughtD Y9 R9 FG9 ?zK9 U9 XB TB D' ?zx9 ?_ ?z1 ?z2 ?z3 ?z4; (case zK9 => assumption); (case zx9 => k_is); (case z1 => exact rfl); (case z2 => exact rfl); (case z3 => exact rfl); (case z4 => decide); intro h8 g8 tk8 vs8 sl8 T8 F8 N8 B8 X8 P8 D8; (try k_fold)) | fail)
  k_with "m_geta" => k_dflt (first | (refine' exc_get Y9 Y9.sy lk_symbol ?zF9 X8 ?zN9 ?zm9 ?zd9 sb9 excM_sy rfl ?_; (case zF9 => assumption); (case zN9 => assumption); (case zm9 => k_mem); (case zd9 => k_mem); intro tk7; (try dsimp only); (try k_fold)) | fail)
  k_with "m_geta" => k_dflt (first | (refine' exc_get Y9 Y9.da lk_data ?zF9 X8 ?zN9 ?zm9 ?zd9 sb9 excM_da rfl ?_; (case zF9 => assumption); (case zN9 => assumption); (case zm9 => k_mem); (case zd9 => k_mem); intro tk7; (try dsimp only); (try k_fold)) | fail)
  constructor
  intro pF loF meF mgF mbF dp un gd cnF csF aF cdF clF outer A₀ base h₀ LF mF sF QF EF B F X N T XB TB DD hk hd hu hret
  refine wpAny_call ?_
  k_dflt (refine' code_defT ([(Str.ofString "ask", .ref f)]).reverse ?k1 ?k2 ?k3 ?k4 ?k5 ?kXB ?kTB ?kDD ?kA ?kF ?kK ?k6 ?k7 ?k8 ?k9 ?kB ?_ ?c2 ?c3 ?c4 ?c5; (case kA => exact rfl); (case kF => exact rfl); (case kK => exact hk); (case k1 => exact B); (case k2 => exact F); (case k3 => exact X); (case k4 => exact N); (case k5 => exact T); (case kXB => exact XB); (case kTB => exact TB); (case kDD => exact DD); (case k6 => k_is); (case k7 => k_is); (case k8 => ktr_room); (case k9 => first | exact BindsTo.of_eq rfl | exact binds_K (by k_in) rfl (by k_is) rfl rfl rfl); (case c5 => decide); (case kB => exact locs (by kernel_rfl!)); (case c2 => exact rfl); (case c3 => exact rfl); (case c4 => exact rfl); k_whole; intro g' L' h' FG' F' N' B' X' T' D'; (try dsimp only [List.reverse, List.reverseAux] at F'); (try dsimp only); (try k_fold); (try (show (let ak : Around := _; wpAny _ ak _ _ _ _)); intro ak))
  k_extra "m_steps"))
theorem u62 : True := by
  k_with_none
  k_with "m_om" => (with_reducible first | decide | assumption | ((show @LT.lt Nat _ _ _); first | exact rm_a ‹_› rfl | exact rm_b ‹_› rfl | exact rm_c ‹_› | exact rm_d ‹_› | exact tn_a ‹_› | exact tn_b ‹_› | exact tn_c ‹_› | exact tn_d ‹_› | exact rm_e ‹_› rfl | exact tp_d ‹_› | exact tp_e ‹_› ‹_› | exact tp_h ‹_› | exact tp_v ‹_› | exact tr_a ‹_›) | ((show @LE.le Nat _ _ _); first | exact tn_h ‹_› | exact tp_c ‹_› | exact tp_k ‹_› ‹_› | exact tp_l ‹_› ‹_› ‹_› | exact tp_x ‹_› ‹_› | exact Nat.le_trans ‹_› ‹_›) | ((show @LT.lt Int _ _ _); first | exact tn_m ‹_› | exact tn_n ‹_› | exact tp_p ‹_› ‹_› ‹_› ‹_› | exact tp_q ‹_› ‹_› ‹_› | exact Int.lt_of_toNat_lt ‹_› | exact Int.lt_of_lt_of_le ‹_› ‹_› | exact Int.sub_left_lt_of_lt_add ‹_› | exact tr_b ‹_›) | ((show @LE.le Int _ _ _); first | exact tn_i ‹_› | exact tn_j ‹_› | exact tn_k ‹_› | exact tn_l ‹_› | exact tn_o ‹_› | exact tp_i ‹_› ‹_› | exact tp_a ‹_› ‹_› | exact tp_a1 ‹_› ‹_› | exact tp_b ‹_› | exact tp_r ‹_› ‹_› | exact tp_s ‹_› | exact Int.le_of_lt (Int.not_le.mp ‹_›) | exact Int.sub_nonneg_of_le ‹_› | exact Int.sub_nonneg_of_le (tn_i ‹_›) | exact Int.le_add_of_nonneg_right (Int.natCast_nonneg _)) | ((show @Eq Nat _ _); first | exact tn_s ‹_› | exact tn_t ‹_› | exact (tn_s ‹_›).symm | exact tp_g ‹_› | exact tn_s (Int.not_le.mp ‹_›) | exact tp_u ‹_› | exact tp_j) | ((show @Eq Int _ _); first | exact tn_e ‹_› | exact tn_f ‹_› | exact tn_g ‹_› | exact tp_m ‹_› | exact tp_n ‹_› | exact tp_o ‹_› ‹_› | exact tp_w ‹_› ‹_› | exact tp_y) | exact tp_f ‹_› ‹_› | exact tp_f ‹_› | exact tp_f (Int.not_lt.mp ‹_›) | exact tp_t ‹_› ‹_› | exact Nat.ne_of_gt ‹_› | exact Nat.ne_of_lt ‹_› | exact Nat.ne_of_gt (Nat.lt_trans ‹_› ‹_›))
  k_with "m_steps" => (repeat' (first | ((first | (k_unfold) | fail); (try dsimp only)) | (first | (k_extra "m_ret") | fail) | (first | (walk1) | fail) | (dsimp only; (first | (walk1) | fail)) | fail "no step"))
  k_with "m_ret" => ((with_reducible refine' hret _ _ _ _ ?_ ?e2 ?e3); (case e2 => k_asm); (case e3 => k_asm); (try k_extra "m_val"))
  k_with "m_ne" => ((with_reducible refine ofs_ne ?_); simp only [ne_eq, String.reduceEq, not_false_eq_true]; done)
  k_with "m_look" => (first | k_dflt (exact rfl) | repeat (first | with_reducible exact look_here | with_reducible exact look_ithere | with_reducible refine Eq.trans (look_next (by k_extra "m_ne")) ?_ | with_reducible refine Eq.trans (look_itnext (by k_extra "m_ne")) ?_ | with_reducible refine Eq.trans (look_off (by k_extra "m_off")) ?_ | with_reducible refine Eq.trans look_nil ?_ | assumption | fail "m_look"))
  k_with "m_kind" => (first | kernel_rfl! | k_dflt (exact rfl) | repeat (first | with_reducible exact kind_here | with_reducible refine Eq.trans (kind_next (by k_extra "m_ne")) ?_ | fail "m_kind"))
  k_with "m_name" => (first | (with_reducible refine' ldK ?k1 ?k4 ?k2 ?k5 ?_; (case k4 => k_extra "m_kind"); (case k1 => first | assumption | k_dflt assumption); (case k2 => k_extra "m_look"); (case k5 => simp only [ne_eq, String.reduceEq, not_false_eq_true])) | fail)
  k_with "m_ite" => (first | with_reducible refine ite_tt ?_ | with_reducible refine ite_ff ?_ | (with_reducible refine dec_pos ?c ?_; (case c => omega)) | (with_reducible refine dec_neg ?c ?_; (case c => omega)) | (with_reducible refine ine_pos ?c ?_; (case c => omega)) | (with_reducible refine ine_neg ?c ?_; (case c => omega)) | (with_reducible refine ieq_pos ?c ?_; (case c => omega)) | (with_reducible refine ieq_neg ?c ?_; (case c => omega)) | (with_reducible refine split_dec ?_ ?_ <;> intro _) | (with_reducible refine split_ine ?_ ?_ <;> intro _) | (with_reducible refine split_ieq ?_ ?_ <;> intro _))
  trivial
inductive DrR (ce dk : Addr) (cells : List Value) (c2 : Nat) (k many : Int) (rest : Led) (r : Value) (n' : Led) : Prop where
  | mk (v : Int) (t2 tk2 : Tok) (c' : Nat) (q1 : r = .int v t2) (q2 : 0 ≤ v) (q3 : v < many) (q4 : n' = (ce, listOf cells.toArray c2) :: (dk, listOf [.ref ce, .int (k + 1) tk2].toArray c') :: rest)
set_option maxHeartbeats 4000000 in
theorem draw_ok {w : World} {rest : Led} {dk ce : Addr} {cells : List Value} {ns : List Int} {k many : Int} {t tk : Tok} {c c2 : Nat} (hi : IntsAre cells ns) (hl : cells.length ≤ 40) (hm : 0 < many) (hm2 : many ≤ 100) (h0 : 0 ≤ k) (h1 : k ≤ 100) (hlt : @LT.lt Nat _ ce dk) (hne : ∀ q ∈ rest, q.1 ≠ dk) :
    GivesU w 715 1 [.ref dk, .int many t] ((ce, listOf cells.toArray c2) :: (dk, listOf [.ref ce, .int k tk].toArray c) :: rest)
      (DrR ce dk cells c2 k many rest) := (by exact qz : Qz _ (by
  have hnl := hi.length
  k_with "m_val" => (first | (exact ⟨_, _, _, _, rfl, Int.fmod_nonneg_of_pos _ hm, Int.fmod_lt_of_pos _ hm, rfl⟩) | fail)
  constructor
  intro pF loF meF mgF mbF dp un gd cnF csF aF cdF clF outer A₀ base h₀ LF mF sF QF EF B F X N T hk hd hu hret
  refine wpAny_call ?_
  k_dflt (refine' code_defK ([(Str.ofString "deck", .ref dk), (Str.ofString "many", .int many t)]).reverse ?k1 ?k2 ?k3 ?k4 ?k5 ?kA ?kF ?kK ?k6 ?k7 ?k8 ?k9 ?kB ?_ ?c2 ?c3 ?c4 ?c5; (case kA => exact rfl); (case kF => exact rfl); (case kK => exact hk); (case k1 => exact B); (case k2 => exact F); (case k3 => exact X); (case k4 => exact N); (case k5 => exact T); (case k6 => k_is); (case k7 => k_is); (case k8 => ktr_room); (case k9 => first | exact BindsTo.of_eq rfl | exact binds_K (by k_in) rfl (by k_is) rfl rfl rfl); (case c5 => decide); (case kB => exact locs (by kernel_rfl!)); (case c2 => exact rfl); (case c3 => exact rfl); (case c4 => exact rfl); k_whole; intro g' L' h' FG' F' N' B' X' T'; (try dsimp only [List.reverse, List.reverseAux] at F'); (try dsimp only); (try k_fold); (try (show (let ak : Around := _; wpAny _ ak _ _ _ _)); intro ak))
  k_extra "m_steps"))
theorem u63 : True := by
  k_with_none
  k_with "m_om" => (with_reducible first | decide | assumption | ((show @LT.lt Nat _ _ _); first | exact rm_a ‹_› rfl | exact rm_b ‹_› rfl | exact rm_c ‹_› | exact rm_d ‹_› | exact tn_a ‹_› | exact tn_b ‹_› | exact tn_c ‹_› | exact tn_d ‹_› | exact rm_e ‹_› rfl | exact tp_d ‹_› | exact tp_e ‹_› ‹_› | exact tp_h ‹_› | exact tp_v ‹_› | exact tr_a ‹_›) | ((show @LE.le Nat _ _ _); first | exact tn_h ‹_› | exact tp_c ‹_› | exact tp_k ‹_› ‹_› | exact tp_l ‹_› ‹_› ‹_› | exact tp_x ‹_› ‹_› | exact Nat.le_trans ‹_› ‹_›) | ((show @LT.lt Int _ _ _); first | exact tn_m ‹_› | exact tn_n ‹_› | exact tp_p ‹_› ‹_› ‹_› ‹_› | exact tp_q ‹_› ‹_› ‹_› | exact Int.lt_of_toNat_lt ‹_› | exact Int.lt_of_lt_of_le ‹_› ‹_› | exact Int.sub_left_lt_of_lt_add ‹_› | exact tr_b ‹_›) | ((show @LE.le Int _ _ _); first | exact tn_i ‹_› | exact tn_j ‹_› | exact tn_k ‹_› | exact tn_l ‹_› | exact tn_o ‹_› | exact tp_i ‹_› ‹_› | exact tp_a ‹_› ‹_› | exact tp_a1 ‹_› ‹_› | exact tp_b ‹_› | exact tp_r ‹_› ‹_› | exact tp_s ‹_› | exact Int.le_of_lt (Int.not_le.mp ‹_›) | exact Int.sub_nonneg_of_le ‹_› | exact Int.sub_nonneg_of_le (tn_i ‹_›) | exact Int.le_add_of_nonneg_right (Int.natCast_nonneg _)) | ((show @Eq Nat _ _); first | exact tn_s ‹_› | exact tn_t ‹_› | exact (tn_s ‹_›).symm | exact tp_g ‹_› | exact tn_s (Int.not_le.mp ‹_›) | exact tp_u ‹_› | exact tp_j) | ((show @Eq Int _ _); first | exact tn_e ‹_› | exact tn_f ‹_› | exact tn_g ‹_› | exact tp_m ‹_› | exact tp_n ‹_› | exact tp_o ‹_› ‹_› | exact tp_w ‹_› ‹_› | exact tp_y) | exact tp_f ‹_› ‹_› | exact tp_f ‹_› | exact tp_f (Int.not_lt.mp ‹_›) | exact tp_t ‹_› ‹_› | exact Nat.ne_of_gt ‹_› | exact Nat.ne_of_lt ‹_› | exact Nat.ne_of_gt (Nat.lt_trans ‹_› ‹_›))
  k_with "m_sd1" => ((case k1 | k2 | k3 | k4 | k5 => assumption))
  k_with "m_steps" => (repeat' (first | ((first | (k_unfold) | fail); (try dsimp only)) | (first | (k_extra "m_ret") | fail) | (first | (walk1) | fail) | (dsimp only; (first | (walk1) | fail)) | fail "no step"))
  k_with "m_ret" => ((with_reducible refine' hret _ _ _ _ ?_ ?e2 ?e3); (case e2 => k_asm); (case e3 => k_asm); (try k_extra "m_val"))
  k_with "m_ne" => ((with_reducible refine ofs_ne ?_); simp only [ne_eq, String.reduceEq, not_false_eq_true]; done)
  k_with "m_look" => (first | k_dflt (exact rfl) | repeat (first | with_reducible exact look_here | with_reducible exact look_ithere | with_reducible refine Eq.trans (look_next (by k_extra "m_ne")) ?_ | with_reducible refine Eq.trans (look_itnext (by k_extra "m_ne")) ?_ | with_reducible refine Eq.trans (look_off (by k_extra "m_off")) ?_ | with_reducible refine Eq.trans look_nil ?_ | assumption | fail "m_look"))
  k_with "m_kind" => (first | kernel_rfl! | k_dflt (exact rfl) | repeat (first | with_reducible exact kind_here | with_reducible refine Eq.trans (kind_next (by k_extra "m_ne")) ?_ | fail "m_kind"))
  k_with "m_name" => (first | (with_reducible refine' ldK ?k1 ?k4 ?k2 ?k5 ?_; (case k4 => k_extra "m_kind"); (case k1 => first | assumption | k_dflt assumption); (case k2 => k_extra "m_look"); (case k5 => simp only [ne_eq, String.reduceEq, not_false_eq_true])) | fail)
  k_with "m_ev" => (with_reducible refine' ev_name ?k0 ?k1 ?k2 ?k5 ?k3 ?k6; (case k5 => k_extra "m_kind"); (case k0 => first | assumption | k_dflt assumption); (case k1 => assumption); (case k2 => assumption); (case k3 => k_dflt k_is); (case k6 => simp only [ne_eq, String.reduceEq, not_false_eq_true]))
  k_with "m_ev" => (with_reducible refine' ev_ld ?k1 ?k4 ?k2 ?k5; (case k4 => k_extra "m_kind"); (case k1 => first | assumption | k_dflt assumption); (case k2 => k_extra "m_look"); (case k5 => simp only [ne_eq, String.reduceEq, not_false_eq_true]))
  k_with "m_spl" => (with_reducible first | (refine' args_ev1 ?zv1 ?_; (case zv1 => k_extra "m_ev")) | (refine' args_ev2 ?zv1 ?zv2 ?_; (case zv1 => k_extra "m_ev"); (case zv2 => k_extra "m_ev")) | (refine' args_ev3 ?zv1 ?zv2 ?zv3 ?_; (case zv1 => k_extra "m_ev"); (case zv2 => k_extra "m_ev"); (case zv3 => k_extra "m_ev")) | (refine' args_ev4 ?zv1 ?zv2 ?zv3 ?zv4 ?_; (case zv1 => k_extra "m_ev"); (case zv2 => k_extra "m_ev"); (case zv3 => k_extra "m_ev"); (case zv4 => k_extra "m_ev")))
  k_with "m_cal" => (with_reducible refine' call_ev ?zv1 ?_; (case zv1 => k_extra "m_ev"))
  trivial
noncomputable def sgsOf (x : Str) : List Int := x.cps.toList.map fun c : Nat => (c : Int)
section
variable {prog : Program} {w : World} {A : Around} {E : Value → Shared → Prop} {s : Shared} {h₀ : Heap} {L : Addr} {m : Str → Option Value} {env : Env}
def StrSrc (prog : Program) (w : World) (A : Around) (h₀ : Heap) (L : Addr) (m : Str → Option Value) (env : Env) (elt : Expr) (x : Str) (scope : Scope) (cl : List (Str × Addr)) (Fin : Shared → List Value → Led → Prop) (xv : Value) (s₁ : Shared) : Prop :=
  ∃ y t news, xv = .str y t ∧ A.handled = none ∧ Fr h₀ L s₁.heap m ∧ News h₀ L s₁.heap news ∧ y.cps.size ≤ sizeLine ∧
    ∀ s₂ : Shared, (∃ h, s₂ = { s₁ with heap := h }) → LCg.CompRest prog w A h₀ L m env elt x scope cl s₂ (fun _ => True) (SignAt y) (Fin s₂) y.cps.size 0 [] news
theorem str_st {I : Addr} {y : Str} {n : Nat} {St : Nat → Heap → Prop} (W : Walks prog w A I [I] [I] n (SignAt y) St) : ∀ i (h h' : Heap) (o : Obj) (nw : Led), St i h → h.get? I = some o → h'.get? I = some o → (∀ b o, h₀.get? b = some o → h'.get? b = some o) → News h₀ L h' nw → True → St i h' :=
  fun i h h' o nw st e e' _ _ _ => W.frame i h h' st fun b hb o' q => by
    rw [List.mem_singleton.mp hb] at q ⊢
    rw [e] at q
    rw [e', q]
theorem ListComp_S {elt iter : Expr} {x : Str} {px : Pos} {scope : Scope} {cl : List (Str × Addr)} {pos : Pos} {Q : Value → Shared → Prop} (_F : Fr h₀ L s.heap m)
    (hclos : closureFor scope env = pure cl) (hcell : ∀ y ∈ scope.names, y.2 ≠ .cell) (hkind : scope.kind = .function)
    (hnames : ∀ y ∈ scope.names, y.2 = .local → scope.names.lookup y.1 = some .local) (hx : scope.names.lookup x = some .local)
    (h : wpAny (model prog w) A (eval iter env) (StrSrc prog w A h₀ L m env elt x scope cl (fun s₂ => LCg.FinE h₀ L m s₂ Q)) E s)
    (hs : ∀ x, foldedSetIterable iter env x = pure x := by intro _; rfl) :
    wpAny (model prog w) A (eval (.ListComp elt [⟨.Name x px, iter, [], 0⟩] scope pos) env) Q E s := by
  rw [eval_ListComp]
  refine wpAny_comprehension_free (use := none) rfl hs hclos hkind hnames (wpAny_mono h (fun xv s₁ h₁ => ?_) fun _ _ e => e)
  obtain ⟨y, t, news, rfl, hh, F, N, hsz, R⟩ := h₁
  have go : ∀ (o : Obj) (St : Nat → Heap → Prop), Walks prog w A s₁.heap.objs.size [s₁.heap.objs.size] [s₁.heap.objs.size] y.cps.size (SignAt y) St → (∀ i h, St i h → ∃ o, h.get? s₁.heap.objs.size = some o) → St 0 (s₁.heap.push o) →
      wpAny (model prog w) A (newList []) (fun acc s₃ => wpAny (model prog w) A (newFunctionEnv scope env.globals cl [] env.qual none .none (some env)) (fun cenv s₄ =>
      codeAny (model prog w) A (.compStart (.ListComp elt [⟨.Name x px, iter, [], 0⟩] scope pos) 0 (.ref s₁.heap.objs.size) acc { cenv with scope := relabel scope env }) (compPost (model prog w) A E none Q acc cenv.locals) s₄) E s₃) E { s₁ with heap := s₁.heap.push o } := by
    intro o St W hIo st
    refine LCg.block_U W hsz hIo (str_st W) hcell hkind hx st (fun b hb => ?_)
      (F.keeps fun _ _ e => Heap.get?_push_of_some _ e) (N.grown fun _ _ e => Heap.get?_push_of_some _ e) (Nat.ne_of_lt F.ns.lt) (next_is_new F) (fun p hp => Nat.ne_of_lt (Heap.lt_size (N p hp).1)) trivial (R _ ⟨_, rfl⟩) ?_
    · rw [List.mem_singleton.mp hb]
      show s₁.heap.objs.size < (s₁.heap.push _).objs.size
      rw [Heap.size_push]; exact Nat.lt_succ_self _
    · intro D C h tk m' ys news' F' N' o1 hn hC₀ hD₀ hCL hDL hCD offC fin
      refine ⟨m', hn, fun h'' hs'' => fin D h'' tk (F'.change hs'' hCL hC₀) (fun p hp => ?_) o1⟩
      refine ⟨hs''.extBut _ _ ?_ (N' p hp).1, (N' p hp).2⟩
      rcases List.mem_cons.mp hp with rfl | hp
      · exact Ne.symm hCD
      · exact offC p hp
  cases ha : y.cps.all (· < 128)
  · exact wpAny_pyIter_wide ha (go _ _ (Walks.strWide hh _ y t) (fun i h st => let ⟨o, e, _⟩ := st; ⟨o, e⟩) ⟨_, Heap.get?_push_size _ rfl, rfl, rfl⟩)
  · exact wpAny_pyIter_ascii ha (go _ _ (Walks.strAscii hh _ y t) (fun i h st => let ⟨o, e, _⟩ := st; ⟨o, e⟩) ⟨_, Heap.get?_push_size _ rfl, rfl, rfl⟩)
def TurnS (h₀ : Heap) (L : Addr) (m : Str → Option Value) (s : Shared) (nw : Led) (J : Value → Prop) (y : Value) (s₂ : Shared) : Prop :=
  ∃ h' tk', s₂ = { s with heap := h', toks := tk' } ∧ Fr h₀ L h' m ∧ News h₀ L h' nw ∧ J y
theorem comp_same {elt : Expr} {x : Str} {scope : Scope} {cl : List (Str × Addr)} {S : Led → Prop} {P : Nat → Value → Prop} {Fin : List Value → Led → Prop} {news : Led} {n : Nat} (J : Nat → List Value → Prop) (hS : S news)
    (turn : ∀ i v I oI C oC D m₂ ys h tk (E' : Value → Shared → Prop), i < n → J i ys → P i v → LCg.NsObj oC m₂ → m₂ x = some v → Fr h₀ L h m → News h₀ L h ((I, oI) :: (C, oC) :: (D, LCg.lst ys) :: news) →
      wpAny (model prog w) A (eval elt (compEnvC scope cl C env)) (TurnS h₀ L m s ((I, oI) :: (C, oC) :: (D, LCg.lst ys) :: news) fun y => J (i + 1) (ys ++ [y])) E' { s with heap := h, toks := tk })
    (h0 : J 0 []) (fin : ∀ ys, J n ys → Fin ys news) : LCg.CompRest prog w A h₀ L m env elt x scope cl s S P Fin n 0 [] news := by
  have key : ∀ (j i : Nat) (ys : List Value), i + j = n → J i ys → LCg.CompRest prog w A h₀ L m env elt x scope cl s S P Fin j i ys news := by
    intro j
    induction j with
    | zero => intro i ys hi hy; exact LCg.CompRest.zero (fin ys (by rw [← show i = n by omega]; exact hy))
    | succ j ih =>
      intro i ys hi hy
      refine LCg.CompRest.succ ?_
      intro v I oI C oC D m₂ h tk E' hv hC hx F N off ne
      refine wpAny_mono (turn i v I oI C oC D m₂ ys h tk E' (by omega) hy hv hC hx F N) (fun y s₂ hq => ?_) fun _ _ e => e
      obtain ⟨h', tk', rfl, F', N', hy'⟩ := hq
      exact ⟨h', tk', news, rfl, F', N', off, hS, ih (i + 1) _ (by omega) hy'⟩
  exact key n 0 [] (by omega) h0
end
theorem sgs_at {y : Str} {i : Nat} {v : Value} (h : SignAt y i v) : ∃ (c : Nat) (u : Tok), (sgsOf y)[i]? = some (c : Int) ∧ v = .str ⟨#[c]⟩ u := by
  obtain ⟨c, u, e, rfl⟩ := h
  refine ⟨c, u, ?_, rfl⟩
  unfold sgsOf
  rw [List.getElem?_map, Array.getElem?_toList, e]
  rfl
theorem ints_snoc {y : Int} {t : Tok} : ∀ {vs : List Value} {ys : List Int}, IntsAre vs ys → IntsAre (vs ++ [.int y t]) (ys ++ [y])
  | _, _, .nil => .cons y t .nil
  | _, _, .cons z u r => .cons z u (ints_snoc r)
inductive RowOfR (x : Str) (p : Int) (news : Led) (r : Value) (n' : Led) : Prop where
  | mk  (v lc d D : Addr) (ys : List Value) (c : Nat) (es : List DictEntry) (k : Nat) (q1 : r = .ref v) (q2 : n' = (lc, listOf ys.toArray c) :: (v, instObj 60 d) :: (d, dictOf es k) :: (D, LCg.lst ys) :: news) (q3 : ViewIn [(lc, listOf ys.toArray c), (v, instObj 60 d), (d, dictOf es k)] v (sgsOf x) p) (q4 : IntsAre ys (sgsOf x))
set_option maxHeartbeats 4000000 in
theorem rowof_ok {w : World} {news : Led} {x : Str} {p : Int} {t t2 : Tok} (hx : x.cps.size ≤ 16) (h0 : 0 ≤ p) (h1 : p ≤ 100) :
    GivesU w 70 5 [.str x t, .int p t2] news (RowOfR x p news) := (by exact qz : Qz _ (by
  k_with "m_comp" => k_dflt (first | (refine' ListComp_S ?zF (by with_unfolding_all rfl) (by decide) (by rfl) (by decide) (by rfl) ?_; (case zF => assumption)) | fail)
  k_with "StrSrc" => (first | (refine ⟨_, _, _, rfl, rfl, by k_asm, by k_asm, by (rw [PySem.sizeLine_eq]; omega), ?_⟩; rintro s2 ⟨h2, rfl⟩; refine comp_same (fun i ys => IntsAre ys ((sgsOf x).take i)) trivial ?_ .nil ?_; rotate_left; (intro ys hJ9; (have hI9 : IntsAre ys (sgsOf x) := by (rw [List.take_of_length_le (by unfold sgsOf; simp)] at hJ9; exact hJ9)); clear hJ9; (have hL9 : ys.length ≤ 16 := by (rw [hI9.length]; unfold sgsOf; rw [List.length_map, Array.length_toList]; exact hx)); (try dsimp only)); rotate_left; (intro i v I oI C oC D m2 ys h tk E2 hi hJ hP hC hx F N; obtain ⟨c9, u9, hc9, rfl⟩ := sgs_at hP; (try dsimp only))) | fail)
  k_with "TurnS" => (first | (refine ⟨_, _, rfl, by k_asm, by k_asm, ?_⟩; rw [List.take_add_one, hc9]; exact ints_snoc hJ) | fail)
  k_with "m_lst" => k_dflt (first | (refine' list_copyK ?zF9 ?zN9 (News.isList ?zM9 ?zm9) ?_ ?zz9; (case zF9 => assumption); (case zN9 => assumption); (case zM9 => assumption); (case zm9 => k_mem); (case zz9 => (rw [List.size_toArray, PySem.sizeLine_eq]; omega)); intro D9 c9 h9 F9 N9 l9; (try k_lt l9); (try k_sweep); (try dsimp only); (try k_fold)) | fail)
  k_with "m_val" => (first | (exact ⟨_, _, _, _, _, _, _, _, rfl, rfl, ⟨_, _, _, _, _, _, _, _, _, .tail _ (.head _), .tail _ (.tail _ (.head _)), .head _, hI9, by (unfold sgsOf; rw [List.length_map, Array.length_toList]; exact hx), h0, h1⟩, hI9⟩) | fail)
  k_with "m_call" => ((with_reducible show wpAny _ _ (call (Value.ref 60) _) _ _ _); dsimp only [ak])
  constructor
  intro pF loF meF mgF mbF dp un gd cnF csF aF cdF clF outer A₀ base h₀ LF mF sF QF EF B F X N T hk hd hu hret
  refine wpAny_call ?_
  k_dflt (refine' code_defK ([(Str.ofString "text", .str x t), (Str.ofString "place", .int p t2)]).reverse ?k1 ?k2 ?k3 ?k4 ?k5 ?kA ?kF ?kK ?k6 ?k7 ?k8 ?k9 ?kB ?_ ?c2 ?c3 ?c4 ?c5; (case kA => exact rfl); (case kF => exact rfl); (case kK => exact hk); (case k1 => exact B); (case k2 => exact F); (case k3 => exact X); (case k4 => exact N); (case k5 => exact T); (case k6 => k_is); (case k7 => k_is); (case k8 => ktr_room); (case k9 => first | exact BindsTo.of_eq rfl | exact binds_K (by k_in) rfl (by k_is) rfl rfl rfl); (case c5 => decide); (case kB => exact locs (by kernel_rfl!)); (case c2 => exact rfl); (case c3 => exact rfl); (case c4 => exact rfl); k_whole; intro g' L' h' FG' F' N' B' X' T'; (try dsimp only [List.reverse, List.reverseAux] at F'); (try dsimp only); (try k_fold); (try (show (let ak : Around := _; wpAny _ ak _ _ _ _)); intro ak))
  k_extra "m_steps"))
set_option maxHeartbeats 4000000 in
theorem rowof1_ok {w : World} {news : Led} {x : Str} {t : Tok} (hx : x.cps.size ≤ 16) :
    GivesU w 70 5 [.str x t] news (RowOfR x 1 news) := (by exact qz : Qz _ (by
  k_with "m_comp" => k_dflt (first | (refine' ListComp_S ?zF (by with_unfolding_all rfl) (by decide) (by rfl) (by decide) (by rfl) ?_; (case zF => assumption)) | fail)
  k_with "StrSrc" => (first | (refine ⟨_, _, _, rfl, rfl, by k_asm, by k_asm, by (rw [PySem.sizeLine_eq]; omega), ?_⟩; rintro s2 ⟨h2, rfl⟩; refine comp_same (fun i ys => IntsAre ys ((sgsOf x).take i)) trivial ?_ .nil ?_; rotate_left; (intro ys hJ9; (have hI9 : IntsAre ys (sgsOf x) := by (rw [List.take_of_length_le (by unfold sgsOf; simp)] at hJ9; exact hJ9)); clear hJ9; (have hL9 : ys.length ≤ 16 := by (rw [hI9.length]; unfold sgsOf; rw [List.length_map, Array.length_toList]; exact hx)); (try dsimp only)); rotate_left; (intro i v I oI C oC D m2 ys h tk E2 hi hJ hP hC hx F N; obtain ⟨c9, u9, hc9, rfl⟩ := sgs_at hP; (try dsimp only))) | fail)
  k_with "TurnS" => (first | (refine ⟨_, _, rfl, by k_asm, by k_asm, ?_⟩; rw [List.take_add_one, hc9]; exact ints_snoc hJ) | fail)
  k_with "m_lst" => k_dflt (first | (refine' list_copyK ?zF9 ?zN9 (News.isList ?zM9 ?zm9) ?_ ?zz9; (case zF9 => assumption); (case zN9 => assumption); (case zM9 => assumption); (case zm9 => k_mem); (case zz9 => (rw [List.size_toArray, PySem.sizeLine_eq]; omega)); intro D9 c9 h9 F9 N9 l9; (try k_lt l9); (try k_sweep); (try dsimp only); (try k_fold)) | fail)
  k_with "m_val" => (first | (exact ⟨_, _, _, _, _, _, _, _, rfl, rfl, ⟨_, _, _, _, _, _, _, _, _, .tail _ (.head _), .tail _ (.tail _ (.head _)), .head _, hI9, by (unfold sgsOf; rw [List.length_map, Array.length_toList]; exact hx), by decide, by decide⟩, hI9⟩) | fail)
  k_with "m_call" => ((with_reducible show wpAny _ _ (call (Value.ref 60) _) _ _ _); dsimp only [ak])
  constructor
  intro pF loF meF mgF mbF dp un gd cnF csF aF cdF clF outer A₀ base h₀ LF mF sF QF EF B F X N T hk hd hu hret
  refine wpAny_call ?_
  k_dflt (refine' code_defK ([(Str.ofString "text", .str x t), (Str.ofString "place", .int 1 250)]).reverse ?k1 ?k2 ?k3 ?k4 ?k5 ?kA ?kF ?kK ?k6 ?k7 ?k8 ?k9 ?kB ?_ ?c2 ?c3 ?c4 ?c5; (case kA => exact rfl); (case kF => exact rfl); (case kK => exact hk); (case k1 => exact B); (case k2 => exact F); (case k3 => exact X); (case k4 => exact N); (case k5 => exact T); (case k6 => k_is); (case k7 => k_is); (case k8 => ktr_room); (case k9 => first | exact BindsTo.of_eq rfl | exact binds_K (by k_in) rfl (by k_is) rfl rfl rfl); (case c5 => decide); (case kB => exact locs (by kernel_rfl!)); (case c2 => exact rfl); (case c3 => exact rfl); (case c4 => exact rfl); k_whole; intro g' L' h' FG' F' N' B' X' T'; (try dsimp only [List.reverse, List.reverseAux] at F'); (try dsimp only); (try k_fold); (try (show (let ak : Around := _; wpAny _ ak _ _ _ _)); intro ak))
  k_extra "m_steps"))
theorem u64 : True := by
  k_with_none
  k_with "m_om" => (with_reducible first | decide | assumption | ((show @LT.lt Nat _ _ _); first | exact rm_a ‹_› rfl | exact rm_b ‹_› rfl | exact rm_c ‹_› | exact rm_d ‹_› | exact tn_a ‹_› | exact tn_b ‹_› | exact tn_c ‹_› | exact tn_d ‹_› | exact rm_e ‹_› rfl | exact tp_d ‹_› | exact tp_e ‹_› ‹_› | exact tp_h ‹_› | exact tp_v ‹_› | exact tr_a ‹_›) | ((show @LE.le Nat _ _ _); first | exact tn_h ‹_› | exact tp_c ‹_› | exact tp_k ‹_› ‹_› | exact tp_l ‹_› ‹_› ‹_› | exact tp_x ‹_› ‹_› | exact Nat.le_trans ‹_› ‹_›) | ((show @LT.lt Int _ _ _); first | exact tn_m ‹_› | exact tn_n ‹_› | exact tp_p ‹_› ‹_› ‹_› ‹_› | exact tp_q ‹_› ‹_› ‹_› | exact Int.lt_of_toNat_lt ‹_› | exact Int.lt_of_lt_of_le ‹_› ‹_› | exact Int.sub_left_lt_of_lt_add ‹_› | exact tr_b ‹_›) | ((show @LE.le Int _ _ _); first | exact tn_i ‹_› | exact tn_j ‹_› | exact tn_k ‹_› | exact tn_l ‹_› | exact tn_o ‹_› | exact tp_i ‹_› ‹_› | exact tp_a ‹_› ‹_› | exact tp_a1 ‹_› ‹_› | exact tp_b ‹_› | exact tp_r ‹_› ‹_› | exact tp_s ‹_› | exact Int.le_of_lt (Int.not_le.mp ‹_›) | exact Int.sub_nonneg_of_le ‹_› | exact Int.sub_nonneg_of_le (tn_i ‹_›) | exact Int.le_add_of_nonneg_right (Int.natCast_nonneg _)) | ((show @Eq Nat _ _); first | exact tn_s ‹_› | exact tn_t ‹_› | exact (tn_s ‹_›).symm | exact tp_g ‹_› | exact tn_s (Int.not_le.mp ‹_›) | exact tp_u ‹_› | exact tp_j) | ((show @Eq Int _ _); first | exact tn_e ‹_› | exact tn_f ‹_› | exact tn_g ‹_› | exact tp_m ‹_› | exact tp_n ‹_› | exact tp_o ‹_› ‹_› | exact tp_w ‹_› ‹_› | exact tp_y) | exact tp_f ‹_› ‹_› | exact tp_f ‹_› | exact tp_f (Int.not_lt.mp ‹_›) | exact tp_t ‹_› ‹_› | exact Nat.ne_of_gt ‹_› | exact Nat.ne_of_lt ‹_› | exact Nat.ne_of_gt (Nat.lt_trans ‹_› ‹_›))
  k_with "m_steps" => (repeat' (first | ((first | (k_unfold) | fail); (try dsimp only)) | (first | (k_extra "m_ret") | fail) | (first | (walk1) | fail) | (dsimp only; (first | (walk1) | fail)) | fail "no step"))
  k_with "m_ret" => ((with_reducible refine' hret _ _ _ ?_ ?e2 ?e3); (case e2 => k_asm); (case e3 => first | k_asm | exact cb_drop (by assumption) (by k_extra "m_sub")); (try k_extra "m_val"))
  k_with "m_val" => exact ⟨_, rfl⟩
  k_with "m_sub" => (intro q9 h9; repeat' (first | exact h9 | refine List.mem_append_left _ ?_ | refine List.mem_cons_of_mem _ ?_))
  trivial
theorem bif_pos {b : Bool} {P Q : Prop} (h : b = true) (q : P) : if b = true then P else Q := by rw [if_pos h]; exact q
theorem bif_neg {b : Bool} {P Q : Prop} (h : b = false) (q : Q) : if b = true then P else Q := by rw [h]; exact q
section
variable {prog : Program} {w : World} {A : Around} {E : Value → Shared → Prop} {s : Shared} {h₀ : Heap} {L : Addr} {m : Str → Option Value} {env : Env}
def StrSrcT (prog : Program) (w : World) (A : Around) (h₀ : Heap) (L : Addr) (m : Str → Option Value) (env : Env) (ct elt : Expr) (x : Str) (scope : Scope) (cl : List (Str × Addr)) (Fin : Shared → List Value → Led → Prop) (xv : Value) (s₁ : Shared) : Prop :=
  ∃ y t news, xv = .str y t ∧ A.handled = none ∧ Fr h₀ L s₁.heap m ∧ News h₀ L s₁.heap news ∧ y.cps.size ≤ sizeLine ∧
    ∀ s₂ : Shared, (∃ h, s₂ = { s₁ with heap := h }) → LCt.CompRestT prog w A h₀ L m env ct elt x scope cl s₂ (fun _ => True) (SignAt y) (Fin s₂) y.cps.size 0 [] news
theorem ListComp_ST {ct elt iter : Expr} {x : Str} {px : Pos} {scope : Scope} {cl : List (Str × Addr)} {pos : Pos} {Q : Value → Shared → Prop} (_F : Fr h₀ L s.heap m)
    (hclos : closureFor scope env = pure cl) (hcell : ∀ y ∈ scope.names, y.2 ≠ .cell) (hkind : scope.kind = .function)
    (hnames : ∀ y ∈ scope.names, y.2 = .local → scope.names.lookup y.1 = some .local) (hx : scope.names.lookup x = some .local)
    (h : wpAny (model prog w) A (eval iter env) (StrSrcT prog w A h₀ L m env ct elt x scope cl (fun s₂ => LCg.FinE h₀ L m s₂ Q)) E s)
    (hs : ∀ x, foldedSetIterable iter env x = pure x := by intro _; rfl) :
    wpAny (model prog w) A (eval (.ListComp elt [⟨.Name x px, iter, [ct], 0⟩] scope pos) env) Q E s := by
  rw [eval_ListComp]
  refine wpAny_comprehension_free (use := none) rfl hs hclos hkind hnames (wpAny_mono h (fun xv s₁ h₁ => ?_) fun _ _ e => e)
  obtain ⟨y, t, news, rfl, hh, F, N, hsz, R⟩ := h₁
  have go : ∀ (o : Obj) (St : Nat → Heap → Prop), Walks prog w A s₁.heap.objs.size [s₁.heap.objs.size] [s₁.heap.objs.size] y.cps.size (SignAt y) St → (∀ i h, St i h → ∃ o, h.get? s₁.heap.objs.size = some o) → St 0 (s₁.heap.push o) →
      wpAny (model prog w) A (newList []) (fun acc s₃ => wpAny (model prog w) A (newFunctionEnv scope env.globals cl [] env.qual none .none (some env)) (fun cenv s₄ =>
      codeAny (model prog w) A (.compStart (.ListComp elt [⟨.Name x px, iter, [ct], 0⟩] scope pos) 0 (.ref s₁.heap.objs.size) acc { cenv with scope := relabel scope env }) (compPost (model prog w) A E none Q acc cenv.locals) s₄) E s₃) E { s₁ with heap := s₁.heap.push o } := by
    intro o St W hIo st
    refine LCt.block_T W hsz hIo (str_st W) hcell hkind hx st (fun b hb => ?_)
      (F.keeps fun _ _ e => Heap.get?_push_of_some _ e) (N.grown fun _ _ e => Heap.get?_push_of_some _ e) (Nat.ne_of_lt F.ns.lt) (next_is_new F) (fun p hp => Nat.ne_of_lt (Heap.lt_size (N p hp).1)) trivial (R _ ⟨_, rfl⟩) ?_
    · rw [List.mem_singleton.mp hb]
      show s₁.heap.objs.size < (s₁.heap.push _).objs.size
      rw [Heap.size_push]; exact Nat.lt_succ_self _
    · intro D C h tk m' ys news' F' N' o1 hn hC₀ hD₀ hCL hDL hCD offC fin
      refine ⟨m', hn, fun h'' hs'' => fin D h'' tk (F'.change hs'' hCL hC₀) (fun p hp => ?_) o1⟩
      refine ⟨hs''.extBut _ _ ?_ (N' p hp).1, (N' p hp).2⟩
      rcases List.mem_cons.mp hp with rfl | hp
      · exact Ne.symm hCD
      · exact offC p hp
  cases ha : y.cps.all (· < 128)
  · exact wpAny_pyIter_wide ha (go _ _ (Walks.strWide hh _ y t) (fun i h st => let ⟨o, e, _⟩ := st; ⟨o, e⟩) ⟨_, Heap.get?_push_size _ rfl, rfl, rfl⟩)
  · exact wpAny_pyIter_ascii ha (go _ _ (Walks.strAscii hh _ y t) (fun i h st => let ⟨o, e, _⟩ := st; ⟨o, e⟩) ⟨_, Heap.get?_push_size _ rfl, rfl, rfl⟩)
def TurnF (h₀ : Heap) (L : Addr) (m : Str → Option Value) (s : Shared) (nw : Led) (ok : Bool) (s₂ : Shared) : Prop :=
  ok = false ∧ ∃ h' tk', s₂ = { s with heap := h', toks := tk' } ∧ Fr h₀ L h' m ∧ News h₀ L h' nw
theorem compT_none {ct elt : Expr} {x : Str} {scope : Scope} {cl : List (Str × Addr)} {S : Led → Prop} {P : Nat → Value → Prop} {Fin : List Value → Led → Prop} {news : Led} {n : Nat} (hS : S news)
    (turn : ∀ i v I oI C oC D m₂ h tk (E' : Value → Shared → Prop), i < n → P i v → LCg.NsObj oC m₂ → m₂ x = some v → Fr h₀ L h m → News h₀ L h ((I, oI) :: (C, oC) :: (D, LCg.lst []) :: news) →
      wpAny (model prog w) A (isTrue ct (compEnvC scope cl C env) (eval ct (compEnvC scope cl C env))) (TurnF h₀ L m s ((I, oI) :: (C, oC) :: (D, LCg.lst []) :: news)) E' { s with heap := h, toks := tk })
    (fin : Fin [] news) : LCt.CompRestT prog w A h₀ L m env ct elt x scope cl s S P Fin n 0 [] news := by
  have key : ∀ (j i : Nat), i + j = n → LCt.CompRestT prog w A h₀ L m env ct elt x scope cl s S P Fin j i [] news := by
    intro j
    induction j with
    | zero => intro i hi; exact LCt.CompRestT.zero fin
    | succ j ih =>
      intro i hi
      refine LCt.CompRestT.succ ?_
      intro v I oI C oC D m₂ h tk E' hv hC hx F N off ne
      refine wpAny_mono (turn i v I oI C oC D m₂ h tk E' (by omega) hv hC hx F N) (fun ok s₂ hq => ?_) fun _ _ e => e
      obtain ⟨rfl, h', tk', rfl, F', N'⟩ := hq
      exact ⟨h', tk', news, rfl, F', N', off, hS, ih (i + 1) (by omega)⟩
  exact key n 0 (by omega)
theorem comp_none {elt : Expr} {x : Str} {scope : Scope} {cl : List (Str × Addr)} {S : Led → Prop} {P : Nat → Value → Prop} {Fin : List Value → Led → Prop} {news : Led} {n : Nat} (hn : n = 0) (fin : Fin [] news) :
    LCg.CompRest prog w A h₀ L m env elt x scope cl s S P Fin n 0 [] news := by
  subst hn
  exact LCg.CompRest.zero fin
end
theorem in_none {i c : Nat} (h : (Str.ofString "1234bcnp").cps[i]? = some c) : (!(Builtin.Str.occurrences (Str.ofString "") ⟨#[c]⟩ 0 (Str.ofString "").length 1).isEmpty) = false :=
  (by decide +kernel : ∀ c ∈ (Str.ofString "1234bcnp").cps.toList, (!(Builtin.Str.occurrences (Str.ofString "") ⟨#[c]⟩ 0 (Str.ofString "").length 1).isEmpty) = false) c (Array.mem_toList_iff.mpr (Array.mem_of_getElem? h))
set_option maxHeartbeats 4000000 in
theorem flags_ok {w : World} {news : Led} {x : Str} {t : Tok} (hx : x = Str.ofString "") :
    Gives w 244 3 [.str x t] news (fun r => ∃ t', r = .str (Str.ofString "") t') := (by exact qz : Qz _ (by
  subst hx
  k_with "m_comp" => k_dflt (first | (refine' ListComp_ST ?zF (by with_unfolding_all rfl) (by decide) (by rfl) (by decide) (by rfl) ?_; (case zF => assumption)) | fail)
  k_with "StrSrcT" => (first | (refine ⟨_, _, _, rfl, rfl, by k_asm, by k_asm, by (rw [PySem.sizeLine_eq]; decide +kernel), ?_⟩; rintro s2 ⟨h2, rfl⟩; refine compT_none trivial ?_ ?_; (intro i v I oI C oC D m2 h tk E2 hi hP hC hx F N; obtain ⟨c9, u9, hc9, rfl⟩ := id hP; (try dsimp only))) | fail)
  k_with "TurnF" => (first | (refine ⟨?zz, _, _, rfl, by k_asm, by k_asm⟩; (case zz => exact in_none hc9)) | fail)
  constructor
  intro pF loF meF mgF mbF dp un gd cnF csF aF cdF clF outer A₀ base h₀ LF mF sF QF EF B F X N T hk hd hu hret
  refine wpAny_call ?_
  k_dflt (refine' code_defC (binds := [(Str.ofString "text", .str (Str.ofString "") t)]) ?k1 ?k2 ?k3 ?k4 ?k5 ?kA ?kF ?kK ?k6 ?k7 ?k8 ?k9 ?kB ?kD ?_ ?c2 ?c3 ?c4; (case kA => exact rfl); (case kF => exact rfl); (case kK => exact hk); (case k1 => exact B); (case k2 => exact F); (case k3 => exact X); (case k4 => exact N); (case k5 => exact T); (case k6 => k_is); (case k7 => k_is); (case k8 => ktr_room); (case k9 => first | exact BindsTo.of_eq rfl | exact binds_K (by k_in) rfl (by k_is) rfl rfl rfl); (case kB => exact rfl); (case kD => decide +kernel); (case c2 => exact rfl); (case c3 => exact rfl); (case c4 => exact rfl); k_whole; intro g' L' h' tk' cells' FG' F' N' Y' B' X' T' l1; k_cells Y'; (try simp only [List.cons_append, List.nil_append] at N'); (rw [show bindL _ _ _ = kstB (fun _ => none) [] from by kernel_rfl!] at F'); (try dsimp only); (try k_fold); (try (show (let ak : Around := _; wpAny _ ak _ _ _ _)); intro ak))
  k_extra "m_steps"))
theorem u65 : True := by
  k_with_none
  k_with "m_om" => (with_reducible first | decide | assumption | ((show @LT.lt Nat _ _ _); first | exact rm_a ‹_› rfl | exact rm_b ‹_› rfl | exact rm_c ‹_› | exact rm_d ‹_› | exact tn_a ‹_› | exact tn_b ‹_› | exact tn_c ‹_› | exact tn_d ‹_› | exact rm_e ‹_› rfl | exact tp_d ‹_› | exact tp_e ‹_› ‹_› | exact tp_h ‹_› | exact tp_v ‹_› | exact tr_a ‹_›) | ((show @LE.le Nat _ _ _); first | exact tn_h ‹_› | exact tp_c ‹_› | exact tp_k ‹_› ‹_› | exact tp_l ‹_› ‹_› ‹_› | exact tp_x ‹_› ‹_› | exact Nat.le_trans ‹_› ‹_›) | ((show @LT.lt Int _ _ _); first | exact tn_m ‹_› | exact tn_n ‹_› | exact tp_p ‹_› ‹_› ‹_› ‹_› | exact tp_q ‹_› ‹_› ‹_› | exact Int.lt_of_toNat_lt ‹_› | exact Int.lt_of_lt_of_le ‹_› ‹_› | exact Int.sub_left_lt_of_lt_add ‹_› | exact tr_b ‹_›) | ((show @LE.le Int _ _ _); first | exact tn_i ‹_› | exact tn_j ‹_› | exact tn_k ‹_› | exact tn_l ‹_› | exact tn_o ‹_› | exact tp_i ‹_› ‹_› | exact tp_a ‹_› ‹_› | exact tp_a1 ‹_› ‹_› | exact tp_b ‹_› | exact tp_r ‹_› ‹_› | exact tp_s ‹_› | exact Int.le_of_lt (Int.not_le.mp ‹_›) | exact Int.sub_nonneg_of_le ‹_› | exact Int.sub_nonneg_of_le (tn_i ‹_›) | exact Int.le_add_of_nonneg_right (Int.natCast_nonneg _)) | ((show @Eq Nat _ _); first | exact tn_s ‹_› | exact tn_t ‹_› | exact (tn_s ‹_›).symm | exact tp_g ‹_› | exact tn_s (Int.not_le.mp ‹_›) | exact tp_u ‹_› | exact tp_j) | ((show @Eq Int _ _); first | exact tn_e ‹_› | exact tn_f ‹_› | exact tn_g ‹_› | exact tp_m ‹_› | exact tp_n ‹_› | exact tp_o ‹_› ‹_› | exact tp_w ‹_› ‹_› | exact tp_y) | exact tp_f ‹_› ‹_› | exact tp_f ‹_› | exact tp_f (Int.not_lt.mp ‹_›) | exact tp_t ‹_› ‹_› | exact Nat.ne_of_gt ‹_› | exact Nat.ne_of_lt ‹_› | exact Nat.ne_of_gt (Nat.lt_trans ‹_› ‹_›))
  k_with "m_sd1" => ((case k1 | k2 | k3 | k4 | k5 => assumption))
  k_with "m_sd2" => ((case kK => first | exact rfl | assumption); (case kd => first | (dsimp only [ktrTop, Around.deeper]; omega) | ktr_room); (case ku => first | (dsimp only [ktrTop, Around.deeper]; omega) | ktr_units))
  k_with "m_steps" => (repeat' (first | ((first | (k_unfold) | fail); (try dsimp only)) | (first | (k_extra "m_ret") | fail) | (first | (walk1) | fail) | (dsimp only; (first | (walk1) | fail)) | fail "no step"))
  k_with "m_ret" => ((with_reducible refine' hret _ _ _ _ ?_ ?e2 ?e3); (case e2 => k_asm); (case e3 => k_asm); (try k_extra "m_val"))
  k_with "m_call" => k_dflt ((first | (refine' GivesU.useM ?G ?k1 ?k2 ?k3 ?k4 ?k5 ?kK ?kd ?ku ?_; k_extra "m_sd1"; (case G => k_extra "m_conU"); k_extra "m_sd2"; intro r9 news9 h9 tk9 hR9 F9 N9; (try k_sweep); k_extra "m_openU" <;> ((try dsimp only); (try k_fold))) | fail))
  k_with "m_call" => k_dflt ((first | (refine' Gives.useM ?G ?k1 ?k2 ?k3 ?k4 ?k5 ?kK ?kd ?ku ?_; k_extra "m_sd1"; (case G => k_extra "m_con"); k_extra "m_sd2"; intro r9 h9 tk9 hR9 F9 N9; (try k_sweep); (k_extra "m_open"); ((try dsimp only); (try k_fold))) | fail))
  k_with "m_ne" => ((with_reducible refine ofs_ne ?_); simp only [ne_eq, String.reduceEq, not_false_eq_true]; done)
  k_with "m_look" => (first | k_dflt (exact rfl) | repeat (first | with_reducible exact look_here | with_reducible exact look_ithere | with_reducible refine Eq.trans (look_next (by k_extra "m_ne")) ?_ | with_reducible refine Eq.trans (look_itnext (by k_extra "m_ne")) ?_ | with_reducible refine Eq.trans (look_off (by k_extra "m_off")) ?_ | with_reducible refine Eq.trans look_nil ?_ | assumption | fail "m_look"))
  k_with "m_kind" => (first | kernel_rfl! | k_dflt (exact rfl) | repeat (first | with_reducible exact kind_here | with_reducible refine Eq.trans (kind_next (by k_extra "m_ne")) ?_ | fail "m_kind"))
  k_with "m_name" => (first | (with_reducible refine' ldK ?k1 ?k4 ?k2 ?k5 ?_; (case k4 => k_extra "m_kind"); (case k1 => first | assumption | k_dflt assumption); (case k2 => k_extra "m_look"); (case k5 => simp only [ne_eq, String.reduceEq, not_false_eq_true])) | fail)
  k_with "m_ev" => (with_reducible refine' ev_name ?k0 ?k1 ?k2 ?k5 ?k3 ?k6; (case k5 => k_extra "m_kind"); (case k0 => first | assumption | k_dflt assumption); (case k1 => assumption); (case k2 => assumption); (case k3 => k_dflt k_is); (case k6 => simp only [ne_eq, String.reduceEq, not_false_eq_true]))
  k_with "m_ev" => (with_reducible refine' ev_ld ?k1 ?k4 ?k2 ?k5; (case k4 => k_extra "m_kind"); (case k1 => first | assumption | k_dflt assumption); (case k2 => k_extra "m_look"); (case k5 => simp only [ne_eq, String.reduceEq, not_false_eq_true]))
  k_with "m_spl" => (with_reducible refine' args_ev ?zv1 ?_; (case zv1 => k_extra "m_ev"))
  k_with "m_spl" => (with_reducible first | (refine' args_ev1 ?zv1 ?_; (case zv1 => k_extra "m_ev")) | (refine' args_ev2 ?zv1 ?zv2 ?_; (case zv1 => k_extra "m_ev"); (case zv2 => k_extra "m_ev")) | (refine' args_ev3 ?zv1 ?zv2 ?zv3 ?_; (case zv1 => k_extra "m_ev"); (case zv2 => k_extra "m_ev"); (case zv3 => k_extra "m_ev")) | (refine' args_ev4 ?zv1 ?zv2 ?zv3 ?zv4 ?_; (case zv1 => k_extra "m_ev"); (case zv2 => k_extra "m_ev"); (case zv3 => k_extra "m_ev"); (case zv4 => k_extra "m_ev")))
  k_with "m_cal" => (with_reducible refine' call_ev ?zv1 ?_; (case zv1 => k_extra "m_ev"))
  k_with "m_itc" => (with_reducible (first | (refine' itc_ev2 ?zv1 ?zv2 ?_; (case zv1 => k_extra "m_ev"); (case zv2 => k_extra "m_ev")) | (refine' itc_ei ?zv1 ?_; (case zv1 => k_extra "m_ev")) | (refine' itc_ev ?zv1 ?_; (case zv1 => k_extra "m_ev"))))
  k_with "m_open" => (rcases hR9 with ⟨i9, t9, rfl⟩)
  k_with "m_con" => ((with_reducible show Gives _ 244 _ _ _ _); exact flags_ok (by decide +kernel))
  trivial
noncomputable def Kd.desc : Kd → Str
  | .w => Str.ofString "w"
  | .u => Str.ofString "_"
  | .b => Str.ofString " "
  | .o => Str.ofString "()"
  | .c => Str.ofString ")("
inductive SynR (k : Kd) (news : Led) (r : Value) (n' : Led) : Prop where
  | mk  (a dx : Addr) (es : List DictEntry) (n : Nat) (q1 : r = .ref a) (q2 : n' = (a, instObj 235 dx) :: (dx, dictOf es n) :: news) (q3 : SynIn [(a, instObj 235 dx), (dx, dictOf es n)] a k) (q4 : (∀ q ∈ news, q.1 < dx)) (q5 : @LT.lt Nat _ dx a)
theorem allLt_mem {d : Addr} (l : Led) (h : AllLt d l) : ∀ q ∈ l, q.1 < d := by
  induction l with
  | nil => intro q hq; cases hq
  | cons p r ih =>
    intro q hq
    rcases List.mem_cons.mp hq with e | hq
    · rw [e]; exact h.1
    · exact ih h.2 q hq
theorem drop_third {h₀ h : Heap} {L : Addr} {a b c : Addr × Obj} {rest : Led} (N : News h₀ L h (a :: b :: c :: rest)) : News h₀ L h (a :: b :: rest) := fun q hq => by
  rcases List.mem_cons.mp hq with rfl | hq
  · exact N _ (.head _)
  · rcases List.mem_cons.mp hq with rfl | hq
    · exact N _ (.tail _ (.head _))
    · exact N _ (.tail _ (.tail _ (.tail _ hq)))
theorem kd3 {k : Kd} {P : Kd → Prop} (h : k = .w ∨ k = .u ∨ k = .b) (a : P .w) (b : P .u) (c : P .b) : P k := by
  rcases h with rfl | rfl | rfl
  · exact a
  · exact b
  · exact c
inductive SynNR (x : Str) (mv : Value) (y : Str) (news : Led) (r : Value) (n' : Led) : Prop where
  | mk (a dx : Addr) (h1 h2 h3 : Int) (k1 k2 k3 t t2 : Tok) (q1 : r = .ref a) (q2 : n' = (a, instObj 235 dx) :: (dx, dictOf [⟨h1, .str (Str.ofString "kind") k1, .str x t⟩, ⟨h2, .str (Str.ofString "match") k2, mv⟩, ⟨h3, .str (Str.ofString "flags") k3, .str y t2⟩] 3) :: news) (q4 : ∀ q ∈ news, q.1 < dx) (q5 : @LT.lt Nat _ dx a)
set_option maxHeartbeats 4000000 in
theorem syn_new_ok {w : World} {news : Led} {x y : Str} {mv : Value} {t t2 : Tok} :
    GivesU w 235 3 [.str x t, mv, .str y t2] news (SynNR x mv y news) := (by exact qz : Qz _ (by
  k_with "m_val" => (first | (exact ⟨_, _, _, _, _, _, _, _, _, _, rfl, rfl, by assumption, by assumption⟩) | fail)
  constructor
  intro pF loF meF mgF mbF dp un gd cnF csF aF cdF clF outer A₀ base h₀ LF mF sF QF EF B F X N T hk hd hu hret
  k_dflt (refine' call_cls ?k1 ?k2 ?k3 ?k4 ?k5 ?k6 ?_; (case k1 => exact F); (case k2 => exact X); (case k3 => exact N); (case k4 => k_is); (case k5 => k_is); (case k6 => k_is); k_whole; clear F N; intro x9 d9 h9 F N l1 l2; (try k_lt l1); (try k_lt2 l2))
  k_dflt (refine' code_defK ([(Str.ofString "self", .ref x9), (Str.ofString "kind", .str x t), (Str.ofString "match", mv), (Str.ofString "flags", .str y t2)]).reverse ?k1 ?k2 ?k3 ?k4 ?k5 ?kA ?kF ?kK ?k6 ?k7 ?k8 ?k9 ?kB ?_ ?c2 ?c3 ?c4 ?c5; (case kA => exact rfl); (case kF => exact rfl); (case kK => exact hk); (case k1 => exact B); (case k2 => exact F); (case k3 => exact X); (case k4 => exact N); (case k5 => exact T); (case k6 => k_is); (case k7 => k_is); (case k8 => ktr_room); (case k9 => first | exact BindsTo.of_eq rfl | exact binds_K (by k_in) rfl (by k_is) rfl rfl rfl); (case c5 => decide); (case kB => exact locs (by kernel_rfl!)); (case c2 => exact rfl); (case c3 => exact rfl); (case c4 => exact rfl); k_whole; intro g' L' h' FG' F' N' B' X' T'; (try dsimp only [List.reverse, List.reverseAux] at F'); (try dsimp only); (try k_fold); (try (show (let ak : Around := _; wpAny _ ak _ _ _ _)); intro ak))
  k_extra "m_steps"))
theorem Kd.desc_pos (k : Kd) : 0 < k.desc.length := by cases k <;> decide
theorem itemD {prog : Program} {w : World} {A : Around} {E : Value → Shared → Prop} {s : Shared} {value slice : Expr} {k : Kd} {t u : Tok} {Q : Value → Shared → Prop} (h : Q (.str k.str s.toks) { s with toks := s.toks + 1 })
    (hs : subscripted slice false (.str k.desc t) (.int 0 u) = operate [.str k.desc t, .int 0 u] (getItem (.str k.desc t) (.int 0 u)) := by with_unfolding_all rfl)
    (ht : ∀ r, letTemporaryGo value (.str k.desc t) r = pure () := by intro _; with_unfolding_all rfl) :
    wpAny (model prog w) A (subscriptTail value slice (.str k.desc t) (.int 0 u)) Q E s :=
  PyProof.Rows.item_str (by decide) (by omega) (by have := k.desc_pos; omega) (fun _ => by
    have e : Txt.item k.desc 0 = k.str := by cases k <;> rfl
    rw [e]
    exact h) hs ht
set_option maxHeartbeats 4000000 in
theorem read1_ok {w : World} {news : Led} {t : Tok} {k : Kd} (hq7 : k = .w ∨ k = .u ∨ k = .b) :
    GivesU w 249 5 [.str k.desc t] news (SynR k news) := (by exact qz : Qz _ (by
  have hl7 : k.desc.cps.size = 1 := by rcases hq7 with rfl | rfl | rfl <;> rfl
  have hl8 : k.desc.length = 1 := hl7
  k_with "m_item" => ((with_reducible show wpAny _ _ (subscriptTail _ _ (Value.str (Kd.desc _) _) (Value.int 0 _)) _ _ _); refine' itemD ?_)
  k_with "m_con" => ((with_reducible show Gives _ 244 _ _ _ _); exact flags_ok (by (apply kd3 hq7 <;> decide +kernel)))
  k_with "m_ite" => first | (refine bif_pos ?_ ?_; (· (apply kd3 hq7 <;> decide +kernel))) | (refine bif_neg ?_ ?_; (· (apply kd3 hq7 <;> decide +kernel)))
  k_with "m_comp" => k_dflt (first | (refine' ListComp_S ?zF (by with_unfolding_all rfl) (by decide) (by rfl) (by decide) (by rfl) ?_; (case zF => assumption)) | fail)
  k_with "StrSrc" => (first | (refine ⟨_, _, _, rfl, rfl, by k_asm, by k_asm, by (rw [PySem.sizeLine_eq]; (apply kd3 hq7 <;> decide +kernel)), ?_⟩; rintro s2 ⟨h2, rfl⟩; refine comp_none (by (apply kd3 hq7 <;> decide +kernel)) ?_) | fail)
  k_with "m_ret" => ((with_reducible refine' hret _ _ _ _ ?_ ?e2 ?e3); (case e2 => k_asm); (case e3 => exact drop_third (by assumption)); (try k_extra "m_val"))
  k_with "m_openU" => (rcases hR9 with ⟨sa, sx, h1, h2, h3, k1, k2, k3, t1, t3, rfl, rfl, l1, l2⟩)
  k_with "m_val" => (first | (exact ⟨_, _, _, _, rfl, rfl, ⟨_, _, _, _, _, _, _, _, _, _, .head _, .tail _ (.head _)⟩, fun q hq => l1 q (.tail _ hq), l2⟩) | fail)
  k_with "m_conU" => ((with_reducible show GivesU _ 235 _ _ _ _); exact syn_new_ok)
  constructor
  intro pF loF meF mgF mbF dp un gd cnF csF aF cdF clF outer A₀ base h₀ LF mF sF QF EF B F X N T hk hd hu hret
  refine wpAny_call ?_
  k_dflt (refine' code_defK ([(Str.ofString "text", .str k.desc t)]).reverse ?k1 ?k2 ?k3 ?k4 ?k5 ?kA ?kF ?kK ?k6 ?k7 ?k8 ?k9 ?kB ?_ ?c2 ?c3 ?c4 ?c5; (case kA => exact rfl); (case kF => exact rfl); (case kK => exact hk); (case k1 => exact B); (case k2 => exact F); (case k3 => exact X); (case k4 => exact N); (case k5 => exact T); (case k6 => k_is); (case k7 => k_is); (case k8 => ktr_room); (case k9 => first | exact BindsTo.of_eq rfl | exact binds_K (by k_in) rfl (by k_is) rfl rfl rfl); (case c5 => decide); (case kB => exact locs (by kernel_rfl!)); (case c2 => exact rfl); (case c3 => exact rfl); (case c4 => exact rfl); k_whole; intro g' L' h' FG' F' N' B' X' T'; (try dsimp only [List.reverse, List.reverseAux] at F'); (try dsimp only); (try k_fold); (try (show (let ak : Around := _; wpAny _ ak _ _ _ _)); intro ak))
  k_extra "m_steps"))
set_option maxHeartbeats 4000000 in
theorem read_o_ok {w : World} {news : Led} {t : Tok} :
    GivesU w 249 5 [.str (Kd.desc .o) t] news (SynR .o news) := (by exact qz : Qz _ (by
  k_with "m_ite" => first | (refine bif_pos ?_ ?_; (· decide +kernel)) | (refine bif_neg ?_ ?_; (· decide +kernel))
  k_with "StrSrc" => (first | (refine ⟨_, _, _, rfl, rfl, by k_asm, by k_asm, by (rw [PySem.sizeLine_eq]; decide +kernel), ?_⟩; rintro s2 ⟨h2, rfl⟩; refine comp_none (by decide +kernel) ?_) | fail)
  constructor
  intro pF loF meF mgF mbF dp un gd cnF csF aF cdF clF outer A₀ base h₀ LF mF sF QF EF B F X N T hk hd hu hret
  refine wpAny_call ?_
  k_dflt (refine' code_defK ([(Str.ofString "text", .str (Str.ofString "()") t)]).reverse ?k1 ?k2 ?k3 ?k4 ?k5 ?kA ?kF ?kK ?k6 ?k7 ?k8 ?k9 ?kB ?_ ?c2 ?c3 ?c4 ?c5; (case kA => exact rfl); (case kF => exact rfl); (case kK => exact hk); (case k1 => exact B); (case k2 => exact F); (case k3 => exact X); (case k4 => exact N); (case k5 => exact T); (case k6 => k_is); (case k7 => k_is); (case k8 => ktr_room); (case k9 => first | exact BindsTo.of_eq rfl | exact binds_K (by k_in) rfl (by k_is) rfl rfl rfl); (case c5 => decide); (case kB => exact locs (by kernel_rfl!)); (case c2 => exact rfl); (case c3 => exact rfl); (case c4 => exact rfl); k_whole; intro g' L' h' FG' F' N' B' X' T'; (try dsimp only [List.reverse, List.reverseAux] at F'); (try dsimp only); (try k_fold); (try (show (let ak : Around := _; wpAny _ ak _ _ _ _)); intro ak))
  k_extra "m_steps"))
set_option maxHeartbeats 4000000 in
theorem read_c_ok {w : World} {news : Led} {t : Tok} :
    GivesU w 249 5 [.str (Kd.desc .c) t] news (SynR .c news) := (by exact qz : Qz _ (by
  constructor
  intro pF loF meF mgF mbF dp un gd cnF csF aF cdF clF outer A₀ base h₀ LF mF sF QF EF B F X N T hk hd hu hret
  refine wpAny_call ?_
  k_dflt (refine' code_defK ([(Str.ofString "text", .str (Str.ofString ")(") t)]).reverse ?k1 ?k2 ?k3 ?k4 ?k5 ?kA ?kF ?kK ?k6 ?k7 ?k8 ?k9 ?kB ?_ ?c2 ?c3 ?c4 ?c5; (case kA => exact rfl); (case kF => exact rfl); (case kK => exact hk); (case k1 => exact B); (case k2 => exact F); (case k3 => exact X); (case k4 => exact N); (case k5 => exact T); (case k6 => k_is); (case k7 => k_is); (case k8 => ktr_room); (case k9 => first | exact BindsTo.of_eq rfl | exact binds_K (by k_in) rfl (by k_is) rfl rfl rfl); (case c5 => decide); (case kB => exact locs (by kernel_rfl!)); (case c2 => exact rfl); (case c3 => exact rfl); (case c4 => exact rfl); k_whole; intro g' L' h' FG' F' N' B' X' T'; (try dsimp only [List.reverse, List.reverseAux] at F'); (try dsimp only); (try k_fold); (try (show (let ak : Around := _; wpAny _ ak _ _ _ _)); intro ak))
  k_extra "m_steps"))
theorem u66 : True := by
  k_with_none
  k_with "m_om" => (with_reducible first | decide | assumption | ((show @LT.lt Nat _ _ _); first | exact rm_a ‹_› rfl | exact rm_b ‹_› rfl | exact rm_c ‹_› | exact rm_d ‹_› | exact tn_a ‹_› | exact tn_b ‹_› | exact tn_c ‹_› | exact tn_d ‹_› | exact rm_e ‹_› rfl | exact tp_d ‹_› | exact tp_e ‹_› ‹_› | exact tp_h ‹_› | exact tp_v ‹_› | exact tr_a ‹_›) | ((show @LE.le Nat _ _ _); first | exact tn_h ‹_› | exact tp_c ‹_› | exact tp_k ‹_› ‹_› | exact tp_l ‹_› ‹_› ‹_› | exact tp_x ‹_› ‹_› | exact Nat.le_trans ‹_› ‹_›) | ((show @LT.lt Int _ _ _); first | exact tn_m ‹_› | exact tn_n ‹_› | exact tp_p ‹_› ‹_› ‹_› ‹_› | exact tp_q ‹_› ‹_› ‹_› | exact Int.lt_of_toNat_lt ‹_› | exact Int.lt_of_lt_of_le ‹_› ‹_› | exact Int.sub_left_lt_of_lt_add ‹_› | exact tr_b ‹_›) | ((show @LE.le Int _ _ _); first | exact tn_i ‹_› | exact tn_j ‹_› | exact tn_k ‹_› | exact tn_l ‹_› | exact tn_o ‹_› | exact tp_i ‹_› ‹_› | exact tp_a ‹_› ‹_› | exact tp_a1 ‹_› ‹_› | exact tp_b ‹_› | exact tp_r ‹_› ‹_› | exact tp_s ‹_› | exact Int.le_of_lt (Int.not_le.mp ‹_›) | exact Int.sub_nonneg_of_le ‹_› | exact Int.sub_nonneg_of_le (tn_i ‹_›) | exact Int.le_add_of_nonneg_right (Int.natCast_nonneg _)) | ((show @Eq Nat _ _); first | exact tn_s ‹_› | exact tn_t ‹_› | exact (tn_s ‹_›).symm | exact tp_g ‹_› | exact tn_s (Int.not_le.mp ‹_›) | exact tp_u ‹_› | exact tp_j) | ((show @Eq Int _ _); first | exact tn_e ‹_› | exact tn_f ‹_› | exact tn_g ‹_› | exact tp_m ‹_› | exact tp_n ‹_› | exact tp_o ‹_› ‹_› | exact tp_w ‹_› ‹_› | exact tp_y) | exact tp_f ‹_› ‹_› | exact tp_f ‹_› | exact tp_f (Int.not_lt.mp ‹_›) | exact tp_t ‹_› ‹_› | exact Nat.ne_of_gt ‹_› | exact Nat.ne_of_lt ‹_› | exact Nat.ne_of_gt (Nat.lt_trans ‹_› ‹_›))
  k_with "m_sd1" => ((case k1 | k2 | k3 | k4 | k5 => assumption))
  k_with "m_sd2" => ((case kK => first | exact rfl | assumption); (case kd => first | (dsimp only [ktrTop, Around.deeper]; omega) | ktr_room); (case ku => first | (dsimp only [ktrTop, Around.deeper]; omega) | ktr_units))
  k_with "m_steps" => (repeat' (first | ((first | (k_unfold) | fail); (try dsimp only)) | (first | (k_extra "m_ret") | fail) | (first | (walk1) | fail) | (dsimp only; (first | (walk1) | fail)) | fail "no step"))
  k_with "m_call" => k_dflt ((first | (refine' GivesU.useM ?G ?k1 ?k2 ?k3 ?k4 ?k5 ?kK ?kd ?ku ?_; k_extra "m_sd1"; (case G => k_extra "m_conU"); k_extra "m_sd2"; intro r9 news9 h9 tk9 hR9 F9 N9; (try k_sweep); k_extra "m_openU" <;> ((try dsimp only); (try k_fold))) | fail))
  k_with "m_ne" => ((with_reducible refine ofs_ne ?_); simp only [ne_eq, String.reduceEq, not_false_eq_true]; done)
  k_with "m_look" => (first | k_dflt (exact rfl) | repeat (first | with_reducible exact look_here | with_reducible exact look_ithere | with_reducible refine Eq.trans (look_next (by k_extra "m_ne")) ?_ | with_reducible refine Eq.trans (look_itnext (by k_extra "m_ne")) ?_ | with_reducible refine Eq.trans (look_off (by k_extra "m_off")) ?_ | with_reducible refine Eq.trans look_nil ?_ | assumption | fail "m_look"))
  k_with "m_kind" => (first | kernel_rfl! | k_dflt (exact rfl) | repeat (first | with_reducible exact kind_here | with_reducible refine Eq.trans (kind_next (by k_extra "m_ne")) ?_ | fail "m_kind"))
  k_with "m_name" => (first | (with_reducible refine' ldK ?k1 ?k4 ?k2 ?k5 ?_; (case k4 => k_extra "m_kind"); (case k1 => first | assumption | k_dflt assumption); (case k2 => k_extra "m_look"); (case k5 => simp only [ne_eq, String.reduceEq, not_false_eq_true])) | fail)
  k_with "m_ev" => (with_reducible refine' ev_name ?k0 ?k1 ?k2 ?k5 ?k3 ?k6; (case k5 => k_extra "m_kind"); (case k0 => first | assumption | k_dflt assumption); (case k1 => assumption); (case k2 => assumption); (case k3 => k_dflt k_is); (case k6 => simp only [ne_eq, String.reduceEq, not_false_eq_true]))
  k_with "m_ev" => (with_reducible refine' ev_ld ?k1 ?k4 ?k2 ?k5; (case k4 => k_extra "m_kind"); (case k1 => first | assumption | k_dflt assumption); (case k2 => k_extra "m_look"); (case k5 => simp only [ne_eq, String.reduceEq, not_false_eq_true]))
  k_with "m_spl" => (with_reducible first | (refine' args_ev1 ?zv1 ?_; (case zv1 => k_extra "m_ev")) | (refine' args_ev2 ?zv1 ?zv2 ?_; (case zv1 => k_extra "m_ev"); (case zv2 => k_extra "m_ev")) | (refine' args_ev3 ?zv1 ?zv2 ?zv3 ?_; (case zv1 => k_extra "m_ev"); (case zv2 => k_extra "m_ev"); (case zv3 => k_extra "m_ev")) | (refine' args_ev4 ?zv1 ?zv2 ?zv3 ?zv4 ?_; (case zv1 => k_extra "m_ev"); (case zv2 => k_extra "m_ev"); (case zv3 => k_extra "m_ev"); (case zv4 => k_extra "m_ev")))
  k_with "m_att" => (with_reducible refine' attr_ev ?zv1 ?_; (case zv1 => k_extra "m_ev"))
  k_with "m_cal" => (with_reducible refine' call_ev ?zv1 ?_; (case zv1 => k_extra "m_ev"))
  k_with "m_sameF" => (intro z h1 h2 h3; (try dsimp only at h2); (try dsimp only); (simp only [List.forall_mem_cons, List.not_mem_nil, false_implies, implies_true, and_true, ne_eq] at h1 h2); first | (simp only [kstB, h1, h2, if_false, List.contains_nil, Bool.false_eq_true]; done) | (simp only [kstB, h1, h2, h3, if_false, List.contains_nil, Bool.false_eq_true]; done) | (simp [kstB, h1, h2]; done) | (simp [kstB, h1, h2, h3]; done))
  k_with "m_sub" => (intro q9 h9; repeat' (first | exact h9 | refine List.mem_append_left _ ?_ | refine List.mem_cons_of_mem _ ?_))
  k_with "m_perm" => ((repeat (refine List.forall_mem_cons.mpr ⟨by k_mem, ?_⟩)); k_extra "m_sub")
  trivial
noncomputable abbrev tabD (rd : Addr) (h1 h2 : Int) (k1 k2 : Tok) : Obj := dictOf [⟨h1, .str (Str.ofString "parent") k1, .none⟩, ⟨h2, .str (Str.ofString "rows") k2, .ref rd⟩] 2
noncomputable def putAll (kvs : List (Int × Value)) (a : Addr) (cs : List Int) : List (Int × Value) := cs.foldl (fun kv c => stored kv c (.ref a)) kvs
theorem stored_len {kvs : List (Int × Value)} {k : Int} {v : Value} : (stored kvs k v).length ≤ kvs.length + 1 := by
  unfold stored
  split <;> simp
theorem putAll_len {a : Addr} : ∀ {cs : List Int} {kvs : List (Int × Value)}, (putAll kvs a cs).length ≤ kvs.length + cs.length
  | [], kvs => Nat.le_refl _
  | c :: r, kvs => by
    show (putAll (stored kvs c (.ref a)) a r).length ≤ _
    have h1 := @putAll_len a r (stored kvs c (.ref a))
    have h2 := @stored_len kvs c (.ref a)
    rw [List.length_cons]
    omega
theorem putAll_snoc {a : Addr} {kvs : List (Int × Value)} {pre : List Int} {c : Int} : putAll kvs a (pre ++ [c]) = stored (putAll kvs a pre) c (.ref a) := by
  unfold putAll
  rw [List.foldl_append]
  rfl
inductive ModR (w : World) (k : Kd) (x : Str) (kvs : List (Int × Value)) (rd tb td : Addr) (TD : Obj) (news : Led) (r : Value) (n' : Led) : Prop where
  | mk  (a dx : Addr) (es : List DictEntry) (n : Nat) (o' : Obj) (q1 : r = .none) (q2 : n' = (rd, o') :: (tb, instObj 316 td) :: (td, TD) :: (a, instObj 235 dx) :: (dx, dictOf es n) :: news) (q3 : o'.IsDictOf (PySem.intKind PR w) (putAll kvs a (KStt.codes x))) (q4 : SynIn [(a, instObj 235 dx), (dx, dictOf es n)] a k) (q5 : (∀ q ∈ (rd, o') :: (tb, instObj 316 td) :: (td, TD) :: news, q.1 < dx)) (q6 : @LT.lt Nat _ dx a)
set_option maxHeartbeats 4000000 in
theorem modify_ok {w : World} {news : Led} {tb td rd : Addr} {o : Obj} {kvs : List (Int × Value)} {k : Kd} {x : Str} {h1 h2 : Int} {k1 k2 t t2 : Tok} (hG : ∀ {news : Led} {t : Tok}, GivesU w 249 5 [.str k.desc t] news (SynR k news))
    (hne : ∀ q ∈ news, q.1 ≠ rd) (n1 : tb ≠ rd) (n2 : td ≠ rd) (hd9 : o.IsDictOf (PySem.intKind PR w) kvs) (hz : kvs.length + (KStt.codes x).length ≤ 100) :
    GivesU w 278 7 [.ref tb, .str x t, .str k.desc t2] ((rd, o) :: (tb, instObj 316 td) :: (td, tabD rd h1 h2 k1 k2) :: news) (ModR w k x kvs rd tb td (tabD rd h1 h2 k1 k2) news) := (by exact qz : Qz _ (by
  k_with "m_conU" => exact hG
  k_with "m_openU" => (rcases hR9 with ⟨sa, sx, ses, sn, rfl, rfl, hsy, hlt, hsx⟩; have hrs := ltN (hlt _ (.head _)); dsimp only at hrs)
  k_with "m_for" => (first | ((rename Fr _ _ _ _ => lF9); (with_unfolding_all refine' For_invVF lF9 ?k1 ?k2 ?_; (case k1 => exact rfl); (case k2 => exact rfl))) | fail)
  k_with "m_iters" => (first | (
    (rename Fr _ _ _ _ => lF); (rename News _ _ _ _ => lN)
    with_unfolding_all refine' KStt.kst_text (fun o : Obj => (rd, o) :: (sa, instObj 235 sx) :: (sx, dictOf ses sn) :: (tb, instObj 316 td) :: (td, tabD rd h1 h2 k1 k2) :: news) (fun _ => []) (fun _ => True) [] (fun pre o => o.IsDictOf (PySem.intKind PR w) (putAll kvs sa pre)) o (by rfl) lF (cb_drop lN (by k_extra "m_perm")) trivial ?kk hd9 ?_ ?_
    (case kk => kst_all)
    (all_goals (clear lF lN))
    (intro o8 pre post n8 t8 u h tk own he hoff hf hP lF lN; (have hl9 := @putAll_len sa pre kvs); (have hl8 : pre.length ≤ (KStt.codes x).length := by (rw [he]; simp)); (try dsimp only at *); (try k_fold))
    rotate_left
    (intro o8 u h tk hf hP lF lN; (try dsimp only at *); (try k_fold))
    rotate_right)              | fail)
  k_with "m_seti" => k_dflt (first | (refine' kda_set (knd := PySem.intKind PR w) ?zF9 ?zN9 ?zU9 hP (intKind_is _ _ _ _) ?zz9 ?_; (case zF9 => assumption); (case zN9 => assumption); (case zU9 => exact UpdF.head (List.forall_mem_cons.mpr ⟨by k_ne, List.forall_mem_cons.mpr ⟨by k_ne, List.forall_mem_cons.mpr ⟨n1, List.forall_mem_cons.mpr ⟨n2, fun q hq => (List.mem_append.mp hq).elim (hne q) (hoff.ne (.head _) q)⟩⟩⟩⟩)); (case zz9 => (rw [PySem.sizeLine_eq]; omega)); intro h9 o9 F9 N9 hd8; (try dsimp only at N9)) | fail)
  k_with "m_end" => k_dflt (first | ((rename News _ _ _ _ => lN); exact kst_end o9 (by assumption) lN (fun q h => (List.mem_append_left own h : q ∈ ((rd, o9) :: (sa, instObj 235 sx) :: (sx, dictOf ses sn) :: (tb, instObj 316 td) :: (td, tabD rd h1 h2 k1 k2) :: news) ++ own)) (fun q h => (List.mem_append_right ((rd, o9) :: (sa, instObj 235 sx) :: (sx, dictOf ses sn) :: (tb, instObj 316 td) :: (td, tabD rd h1 h2 k1 k2) :: news) h : q ∈ ((rd, o9) :: (sa, instObj 235 sx) :: (sx, dictOf ses sn) :: (tb, instObj 316 td) :: (td, tabD rd h1 h2 k1 k2) :: news) ++ own)) rfl trivial (by kst_all) (by k_extra "m_sameF") (by rw [putAll_snoc]; exact hd8)) | fail)
  k_with "m_ret" => ((with_reducible refine' hret _ ((rd, o8) :: (tb, instObj 316 td) :: (td, tabD rd h1 h2 k1 k2) :: (sa, instObj 235 sx) :: (sx, dictOf ses sn) :: news) _ _ ?_ ?e2 ?e3); (case e2 => k_asm); (case e3 => exact cb_drop (by assumption) (by k_extra "m_perm")); (try k_extra "m_val"))
  k_with "m_val" => (first | (exact ⟨_, _, _, _, _, rfl, rfl, hP, hsy, List.forall_mem_cons.mpr ⟨hrs, fun q hq => hlt q (.tail _ hq)⟩, hsx⟩) | fail)
  constructor
  intro pF loF meF mgF mbF dp un gd cnF csF aF cdF clF outer A₀ base h₀ LF mF sF QF EF B F X N T hk hd hu hret
  refine wpAny_call ?_
  k_dflt (refine' code_defK ([(Str.ofString "self", .ref tb), (Str.ofString "text", .str x t), (Str.ofString "description", .str k.desc t2)]).reverse ?k1 ?k2 ?k3 ?k4 ?k5 ?kA ?kF ?kK ?k6 ?k7 ?k8 ?k9 ?kB ?_ ?c2 ?c3 ?c4 ?c5; (case kA => exact rfl); (case kF => exact rfl); (case kK => exact hk); (case k1 => exact B); (case k2 => exact F); (case k3 => exact X); (case k4 => exact N); (case k5 => exact T); (case k6 => k_is); (case k7 => k_is); (case k8 => ktr_room); (case k9 => first | exact BindsTo.of_eq rfl | exact binds_K (by k_in) rfl (by k_is) rfl rfl rfl); (case c5 => decide); (case kB => exact locs (by kernel_rfl!)); (case c2 => exact rfl); (case c3 => exact rfl); (case c4 => exact rfl); k_whole; intro g' L' h' FG' F' N' B' X' T'; (try dsimp only [List.reverse, List.reverseAux] at F'); (try dsimp only); (try k_fold); (try (show (let ak : Around := _; wpAny _ ak _ _ _ _)); intro ak))
  k_extra "m_steps"))
def NotIt (o : Obj) : Prop := (o.cls ≠ .type "list_iterator" ∧ o.cls ≠ .type "range_iterator") ∨ (∃ c, o.data = .cell c) ∨ ∃ vs s t, o.data = .fields vs ∧ (vs : Array Value)[1]? = some (.str s t)
theorem NotIt.ne {o oI : Obj} (h : NotIt o) (hc : oI.cls = .type "list_iterator" ∨ oI.cls = .type "range_iterator") (hd : ∃ vs, oI.data = .fields vs ∧ ∀ s t, (vs : Array Value)[1]? ≠ some (.str s t)) : o ≠ oI := fun e => by
  obtain ⟨us, hd, hn⟩ := hd
  rcases h with ⟨h1, h2⟩ | ⟨c, h⟩ | ⟨vs, s, t, h, h'⟩
  · rcases hc with hc | hc
    · exact h1 (by rw [e]; exact hc)
    · exact h2 (by rw [e]; exact hc)
  · rw [e, hd] at h
    cases h
  · rw [e, hd] at h
    cases h
    exact hn _ _ h'
def TEnd (h₀ : Heap) (L I : Addr) (oI : Obj) (J : (Str → Option Value) → Led → Prop) (s₂ : Shared) (s : Shared) : Prop :=
  ∃ h' tk m' nw, s = { s₂ with heap := h', toks := tk } ∧ Fr h₀ L h' m' ∧ News h₀ L h' ((I, oI) :: nw) ∧ J m' nw
theorem TEnd.intro {h₀ : Heap} {L I : Addr} {oI : Obj} {J : (Str → Option Value) → Led → Prop} {s₂ : Shared} {h' : Heap} {tk : Nat} {m' : Str → Option Value} {nw : Led} (F : Fr h₀ L h' m') (N : News h₀ L h' ((I, oI) :: nw)) (hJ : J m' nw) :
    TEnd h₀ L I oI J s₂ { s₂ with heap := h', toks := tk } := ⟨_, _, _, _, rfl, F, N, hJ⟩
def TPost (h₀ : Heap) (L I : Addr) (oI : Obj) (J : (Str → Option Value) → Led → Prop) (s₂ : Shared) (Q : Flow → Shared → Prop) (f : Flow) (s : Shared) : Prop :=
  match f with
  | .ret v => Q (.ret v) s
  | .brk => Q .next s
  | _ => TEnd h₀ L I oI J s₂ s
section
variable {prog : Program} {w : World} {A : Around} {E : Value → Shared → Prop} {s : Shared} {env : Env} {h₀ : Heap} {target : Expr} {body : List Stmt} {Q : Flow → Shared → Prop}
theorem tpost_step {L I : Addr} {oI : Obj} {own : Led} {J : (Str → Option Value) → Led → Prop} {s₂ s₃ : Shared} {f : Flow} (hc : ∀ m nw, J m nw → ∀ p ∈ nw, p.2 ≠ oI) (ho : ∀ m nw, J m nw → ∀ p ∈ own, p = (I, oI) ∨ p ∈ nw)
    (h : TPost h₀ L I oI J s₂ Q f s₃) : LoopStepV h₀ L [I] own J s₂ (fun v s' => Q (.ret v) s') (fun s' => Q .next s') f s₃ := by
  have key : TEnd h₀ L I oI J s₂ s₃ → LoopStepU h₀ L [I] own J s₂ .next s₃ := by
    rintro ⟨h', tk, m', nw, e, F, N, hJ⟩
    refine ⟨rfl, h', tk, m', nw, e, F, fun p hp => ?_, fun p hp hw => ?_, hJ⟩
    · rcases List.mem_append.mp hp with hp | hp
      · rcases ho _ _ hJ p hp with rfl | hp
        · exact N _ (.head _)
        · exact N _ (.tail _ hp)
      · exact N _ (.tail _ hp)
    · have e1 := (N _ (.head _)).1
      have e2 := (N _ (.tail _ hp)).1
      rw [List.mem_singleton.mp hw, e1] at e2
      exact hc _ _ hJ p hp (Option.some.inj e2).symm
  cases f with
  | ret v => exact h
  | brk => exact h
  | next => exact key h
  | cont => exact key h
theorem list_J {ax : Addr} {lo : Obj} {vs : List Value} {n : Nat} {m₀ : Str → Option Value} {news : Led} {L : Addr} (hL : env.locals = L) (J : Nat → (Str → Option Value) → Led → Prop)
    (hh : A.handled = none) (F : Fr h₀ L s.heap m₀) (N : News h₀ L s.heap news) (hm : (ax, lo) ∈ news) (hc : lo.cls = .type "list") (hd : lo.data = .seq vs.toArray n)
    (h0 : J 0 m₀ news) (hl : ∀ i m nw, J i m nw → (ax, lo) ∈ nw ∧ ∀ p ∈ nw, NotIt p.2)
    (step : ∀ i v m nw h tk I oI, oI.cls = .type "list_iterator" → vs[i]? = some v → J i m nw → Fr h₀ L h m → News h₀ L h ((I, oI) :: nw) →
      wpAny (model prog w) A (assign target env v) (fun _ s₃ => wpAny (model prog w) A (execs body env) (TPost h₀ L I oI (J (i + 1)) { s with heap := h, toks := tk } Q) E s₃) E { s with heap := h, toks := tk })
    (done : ∀ h tk m nw, J vs.length m nw → Fr h₀ L h m → News h₀ L h nw → Q .next { s with heap := h, toks := tk }) :
    wpAny (model prog w) A (pyIter (.ref ax)) (fun it s₂ => TurnsAt prog w A h₀ env target body Q E it s₂) E s := by
  subst hL
  have hax := N _ hm
  have hll : s.heap.IsList ax vs.toArray := ⟨lo, hax.1, hc, n, hd⟩
  have hne : ax ≠ s.heap.objs.size := Nat.ne_of_lt (Heap.lt_size hax.1)
  refine wpAny_pyIter_list hll ?_
  refine ⟨s.heap.objs.size, [s.heap.objs.size, ax], [s.heap.objs.size], vs.toArray.size, _, _, _, m₀, news, J, rfl,
    KTurns.ofWalks (Walks.list hh s.heap.objs.size ax hne vs.toArray) fun i v s Q E st q => letGo_listiter st.1 q, ?_, ?_, ?_, ⟨⟨_, Heap.get?_push_size _ rfl, rfl, rfl⟩, hll.at fun o e => Heap.get?_push_of_some _ e⟩,
    F.push _, (fun p hp => ⟨Heap.get?_push_of_some _ (N p hp).1, (N p hp).2⟩), h0, ?_, ?_⟩
  · intro hI
    rcases List.mem_cons.mp hI with e | hI
    · exact absurd F.ns.lt (e ▸ Nat.lt_irrefl _)
    · exact hax.2.1 (List.mem_singleton.mp hI).symm
  · intro b hb
    rw [List.mem_singleton.mp hb]
    exact next_is_new F
  · intro p hp hI
    exact absurd (Heap.lt_size (N p hp).1) ((List.mem_singleton.mp hI) ▸ Nat.lt_irrefl _)
  · intro i v m₁ nw h₁ tk own hi hP hJ _ ho hov hall hst F₁ N₁
    obtain ⟨oI, hoI, hcI, hdI⟩ := hst.1
    have hIo : (s.heap.objs.size, oI) ∈ own := hall _ (.head _) (next_is_new F) _ hoI
    have hv : vs[i]? = some v := by simpa using hP
    have hoO : ∀ m' nw', J (i + 1) m' nw' → ∀ p ∈ own, p = (s.heap.objs.size, oI) ∨ p ∈ nw' := fun m' nw' hJ' p hp => by
      have e := hov p hp
      rcases List.mem_cons.mp (ho p hp) with q | q
      · rw [q, hoI] at e
        exact .inl (Prod.ext q (Option.some.inj e).symm)
      · have q' := List.mem_singleton.mp q
        have hx := (N₁ _ (List.mem_append_right _ (hl _ _ _ hJ).1)).1
        rw [q', show h₁.get? ax = some lo from hx] at e
        have : p = (ax, lo) := Prod.ext q' (Option.some.inj e).symm
        rw [this]
        exact .inr (hl _ _ _ hJ').1
    refine wpAny_mono (step i v m₁ nw h₁ tk s.heap.objs.size oI hcI hv hJ F₁ (fun p hp => ?_)) (fun _ s₃ h₃ => wpAny_mono h₃ (fun f s₄ h₄ => ?_) fun _ _ e => e) fun _ _ e => e
    · rcases List.mem_cons.mp hp with rfl | hp
      · exact N₁ _ (List.mem_append_left _ hIo)
      · exact N₁ _ (List.mem_append_right _ hp)
    · exact tpost_step (fun m' nw' hJ' p hp e => ((hl _ _ _ hJ').2 p hp).ne (.inl hcI) ⟨_, hdI, fun s t h => by simp at h⟩ e) hoO h₄
  · intro h' tk m' nw F' N' _ hJ
    rw [show vs.toArray.size = vs.length by simp] at hJ
    exact done h' tk m' nw hJ F' N'
theorem range_J {r : Addr} {a b : Int} {t u v₀ : Tok} {n : Nat} {x : Str} {m₀ : Str → Option Value} {news : Led} {L : Addr} (hL : env.locals = L) (J : Nat → (Str → Option Value) → Led → Prop)
    (hh : A.handled = none) (hr : IsRange s.heap r a b 1 t u v₀) (hsm : Builtin.Range.small a b 1 = true) (hn : Builtin.Range.rangeSize a b 1 = (n : Int)) (F : Fr h₀ L s.heap m₀) (N : News h₀ L s.heap news)
    (h0 : J 0 m₀ news) (hl : ∀ i m nw, J i m nw → ∀ p ∈ nw, NotIt p.2)
    (step : ∀ i t m nw h tk I oI, oI.cls = .type "range_iterator" → i < n → J i m nw → Fr h₀ L h (fun y => if y = x then some (.int (a + (i : Int)) t) else m y) → News h₀ L h ((I, oI) :: nw) →
      wpAny (model prog w) A (execs body env) (TPost h₀ L I oI (J (i + 1)) { s with heap := h, toks := tk } Q) E { s with heap := h, toks := tk })
    (done : ∀ h tk m nw, J n m nw → Fr h₀ L h m → News h₀ L h nw → Q .next { s with heap := h, toks := tk }) :
    wpAny (model prog w) A (pyIter (.ref r)) (fun it s₂ => LoopAtV prog w A h₀ env x body Q E it s₂) E s := by
  subst hL
  refine wpAny_pyIter_range hr hsm ?_
  refine ⟨s.heap.objs.size, [s.heap.objs.size], [s.heap.objs.size], n, _, _, m₀, news, J, rfl, (Walks.range hh s.heap.objs.size a 1 n).bound, ?_, ?_, ?_, (by show IsRangeIter _ _ _ _ _; rw [hn]; simpa using Heap.get?_push_size _ rfl),
    F.push _, (fun p hp => ⟨Heap.get?_push_of_some _ (N p hp).1, (N p hp).2⟩), h0, ?_, ?_⟩
  · intro hI
    exact absurd F.ns.lt ((List.mem_singleton.mp hI) ▸ Nat.lt_irrefl _)
  · intro b hb
    rw [List.mem_singleton.mp hb]
    exact next_is_new F
  · intro p hp hI
    exact absurd (Heap.lt_size (N p hp).1) ((List.mem_singleton.mp hI) ▸ Nat.lt_irrefl _)
  · rintro i v m₁ nw s₁ own ⟨h₁, tk, rfl⟩ hi ⟨_, t, rfl⟩ hJ _ ho hov hall hst F₁ N₁
    obtain ⟨oI, hst', hcI, hdI⟩ : ∃ o, h₁.get? s.heap.objs.size = some o ∧ o.cls = .type "range_iterator" ∧ ∃ vs, o.data = .fields vs ∧ ∀ s t, (vs : Array Value)[1]? ≠ some (.str s t) := ⟨_, hst, rfl, _, rfl, fun s t h => by simp [rawInt] at h⟩
    have hIo : (s.heap.objs.size, oI) ∈ own := hall _ (.head _) (next_is_new F) _ hst'
    rw [Int.mul_one] at F₁
    refine wpAny_mono (step i t m₁ nw h₁ tk s.heap.objs.size oI hcI hi hJ F₁ (fun p hp => ?_)) (fun f s₄ h₄ => ?_) fun _ _ e => e
    · rcases List.mem_cons.mp hp with rfl | hp
      · exact N₁ _ (List.mem_append_left _ hIo)
      · exact N₁ _ (List.mem_append_right _ hp)
    · refine tpost_step (fun m' nw' hJ' p hp e => (hl _ _ _ hJ' p hp).ne (.inr hcI) hdI e) (fun _ _ _ p hp => .inl ?_) h₄
      have e := hov p hp
      have q := List.mem_singleton.mp (ho p hp)
      rw [q, hst'] at e
      exact Prod.ext q (Option.some.inj e).symm
  · intro h' tk m' nw F' N' _ hJ
    exact done h' tk m' nw hJ F' N'
end
theorem ne_addr {h₀ h : Heap} {L a b : Addr} {o o' : Obj} {nw : Led} (N : News h₀ L h nw) (h1 : (a, o) ∈ nw) (h2 : (b, o') ∈ nw) (hne : o ≠ o') : a ≠ b := fun e => by
  have e1 := (N _ h1).1
  have e2 := (N _ h2).1
  rw [show (a, o).1 = (b, o').1 from e, e2] at e1
  exact hne (Option.some.inj e1).symm

theorem u68 : True := by
  k_with_none
  k_with "m_om" => (with_reducible first | decide | assumption | ((show @LT.lt Nat _ _ _); first | exact rm_a ‹_› rfl | exact rm_b ‹_› rfl | exact rm_c ‹_› | exact rm_d ‹_› | exact tn_a ‹_› | exact tn_b ‹_› | exact tn_c ‹_› | exact tn_d ‹_› | exact rm_e ‹_› rfl | exact tp_d ‹_› | exact tp_e ‹_› ‹_› | exact tp_h ‹_› | exact tp_v ‹_› | exact tr_a ‹_›) | ((show @LE.le Nat _ _ _); first | exact tn_h ‹_› | exact tp_c ‹_› | exact tp_k ‹_› ‹_› | exact tp_l ‹_› ‹_› ‹_› | exact tp_x ‹_› ‹_› | exact Nat.le_trans ‹_› ‹_›) | ((show @LT.lt Int _ _ _); first | exact tn_m ‹_› | exact tn_n ‹_› | exact tp_p ‹_› ‹_› ‹_› ‹_› | exact tp_q ‹_› ‹_› ‹_› | exact Int.lt_of_toNat_lt ‹_› | exact Int.lt_of_lt_of_le ‹_› ‹_› | exact Int.sub_left_lt_of_lt_add ‹_› | exact tr_b ‹_›) | ((show @LE.le Int _ _ _); first | exact tn_i ‹_› | exact tn_j ‹_› | exact tn_k ‹_› | exact tn_l ‹_› | exact tn_o ‹_› | exact tp_i ‹_› ‹_› | exact tp_a ‹_› ‹_› | exact tp_a1 ‹_› ‹_› | exact tp_b ‹_› | exact tp_r ‹_› ‹_› | exact tp_s ‹_› | exact Int.le_of_lt (Int.not_le.mp ‹_›) | exact Int.sub_nonneg_of_le ‹_› | exact Int.sub_nonneg_of_le (tn_i ‹_›) | exact Int.le_add_of_nonneg_right (Int.natCast_nonneg _)) | ((show @Eq Nat _ _); first | exact tn_s ‹_› | exact tn_t ‹_› | exact (tn_s ‹_›).symm | exact tp_g ‹_› | exact tn_s (Int.not_le.mp ‹_›) | exact tp_u ‹_› | exact tp_j) | ((show @Eq Int _ _); first | exact tn_e ‹_› | exact tn_f ‹_› | exact tn_g ‹_› | exact tp_m ‹_› | exact tp_n ‹_› | exact tp_o ‹_› ‹_› | exact tp_w ‹_› ‹_› | exact tp_y) | exact tp_f ‹_› ‹_› | exact tp_f ‹_› | exact tp_f (Int.not_lt.mp ‹_›) | exact tp_t ‹_› ‹_› | exact Nat.ne_of_gt ‹_› | exact Nat.ne_of_lt ‹_› | exact Nat.ne_of_gt (Nat.lt_trans ‹_› ‹_›))
  k_with "m_steps" => (repeat' (first | ((first | (k_unfold) | fail); (try dsimp only)) | (first | (k_extra "m_ret") | fail) | (first | (walk1) | fail) | (dsimp only; (first | (walk1) | fail)) | fail "no step"))
  k_with "m_ret" => ((with_reducible refine' hret _ _ _ _ ?_ ?e2 ?e3); (case e2 => k_asm); (case e3 => k_asm); (try k_extra "m_val"))
  k_with "m_look" => (first | k_dflt (exact rfl) | repeat (first | with_reducible exact look_here | with_reducible exact look_ithere | with_reducible refine Eq.trans (look_next (by k_extra "m_ne")) ?_ | with_reducible refine Eq.trans (look_itnext (by k_extra "m_ne")) ?_ | with_reducible refine Eq.trans (look_off (by k_extra "m_off")) ?_ | with_reducible refine Eq.trans look_nil ?_ | assumption | fail "m_look"))
  k_with "m_kind" => (first | kernel_rfl! | k_dflt (exact rfl) | repeat (first | with_reducible exact kind_here | with_reducible refine Eq.trans (kind_next (by k_extra "m_ne")) ?_ | fail "m_kind"))
  k_with "m_name" => (first | (with_reducible refine' ldK ?k1 ?k4 ?k2 ?k5 ?_; (case k4 => k_extra "m_kind"); (case k1 => first | assumption | k_dflt assumption); (case k2 => k_extra "m_look"); (case k5 => simp only [ne_eq, String.reduceEq, not_false_eq_true])) | fail)
  trivial
inductive TbNR (w : World) (news : Led) (r : Value) (n' : Led) : Prop where
  | mk (tb td rd : Addr) (o : Obj) (h1 h2 : Int) (k1 k2 : Tok) (q1 : r = .ref tb) (q2 : n' = (rd, o) :: (tb, instObj 316 td) :: (td, tabD rd h1 h2 k1 k2) :: news) (q3 : o.IsDictOf (PySem.intKind PR w) ([] : List (Int × Value))) (q4 : (rd == sysModules) = false) (q5 : ∀ q ∈ news, q.1 < td) (q6 : @LT.lt Nat _ td tb) (q7 : @LT.lt Nat _ tb rd)
set_option maxHeartbeats 4000000 in
theorem table_new_ok {w : World} {news : Led} :
    GivesU w 316 3 [] news (TbNR w news) := (by exact qz : Qz _ (by
  k_with "m_dict" => k_dflt (first | (refine' newDict_K ?zF9 ?zN9 (TopRead.nolimit (by k_asm)) ?_; (case zF9 => assumption); (case zN9 => assumption); intro st h9 os F9 N9 lt los hss fss his fis; (try k_lt lt); (try k_sweep)) | fail)
  k_with "m_val" => (first | (exact ⟨_, _, _, _, _, _, _, _, rfl, rfl, his, los, by assumption, by assumption, by omega⟩) | fail)
  constructor
  intro pF loF meF mgF mbF dp un gd cnF csF aF cdF clF outer A₀ base h₀ LF mF sF QF EF B F X N T hk hd hu hret
  k_dflt (refine' call_cls ?k1 ?k2 ?k3 ?k4 ?k5 ?k6 ?_; (case k1 => exact F); (case k2 => exact X); (case k3 => exact N); (case k4 => k_is); (case k5 => k_is); (case k6 => k_is); k_whole; clear F N; intro x9 d9 h9 F N l1 l2; (try k_lt l1); (try k_lt2 l2))
  k_dflt (refine' code_defK ([(Str.ofString "self", .ref x9), (Str.ofString "parent", .none)]).reverse ?k1 ?k2 ?k3 ?k4 ?k5 ?kA ?kF ?kK ?k6 ?k7 ?k8 ?k9 ?kB ?_ ?c2 ?c3 ?c4 ?c5; (case kA => exact rfl); (case kF => exact rfl); (case kK => exact hk); (case k1 => exact B); (case k2 => exact F); (case k3 => exact X); (case k4 => exact N); (case k5 => exact T); (case k6 => k_is); (case k7 => k_is); (case k8 => ktr_room); (case k9 => first | exact BindsTo.of_eq rfl | exact binds_K (by k_in) rfl (by k_is) rfl rfl rfl); (case c5 => decide); (case kB => exact locs (by kernel_rfl!)); (case c2 => exact rfl); (case c3 => exact rfl); (case c4 => exact rfl); k_whole; intro g' L' h' FG' F' N' B' X' T'; (try dsimp only [List.reverse, List.reverseAux] at F'); (try dsimp only); (try k_fold); (try (show (let ak : Around := _; wpAny _ ak _ _ _ _)); intro ak))
  k_extra "m_steps"))
theorem u69 : True := by
  k_with_none
  k_with "m_om" => (with_reducible first | decide | assumption | ((show @LT.lt Nat _ _ _); first | exact rm_a ‹_› rfl | exact rm_b ‹_› rfl | exact rm_c ‹_› | exact rm_d ‹_› | exact tn_a ‹_› | exact tn_b ‹_› | exact tn_c ‹_› | exact tn_d ‹_› | exact rm_e ‹_› rfl | exact tp_d ‹_› | exact tp_e ‹_› ‹_› | exact tp_h ‹_› | exact tp_v ‹_› | exact tr_a ‹_›) | ((show @LE.le Nat _ _ _); first | exact tn_h ‹_› | exact tp_c ‹_› | exact tp_k ‹_› ‹_› | exact tp_l ‹_› ‹_› ‹_› | exact tp_x ‹_› ‹_› | exact Nat.le_trans ‹_› ‹_›) | ((show @LT.lt Int _ _ _); first | exact tn_m ‹_› | exact tn_n ‹_› | exact tp_p ‹_› ‹_› ‹_› ‹_› | exact tp_q ‹_› ‹_› ‹_› | exact Int.lt_of_toNat_lt ‹_› | exact Int.lt_of_lt_of_le ‹_› ‹_› | exact Int.sub_left_lt_of_lt_add ‹_› | exact tr_b ‹_›) | ((show @LE.le Int _ _ _); first | exact tn_i ‹_› | exact tn_j ‹_› | exact tn_k ‹_› | exact tn_l ‹_› | exact tn_o ‹_› | exact tp_i ‹_› ‹_› | exact tp_a ‹_› ‹_› | exact tp_a1 ‹_› ‹_› | exact tp_b ‹_› | exact tp_r ‹_› ‹_› | exact tp_s ‹_› | exact Int.le_of_lt (Int.not_le.mp ‹_›) | exact Int.sub_nonneg_of_le ‹_› | exact Int.sub_nonneg_of_le (tn_i ‹_›) | exact Int.le_add_of_nonneg_right (Int.natCast_nonneg _)) | ((show @Eq Nat _ _); first | exact tn_s ‹_› | exact tn_t ‹_› | exact (tn_s ‹_›).symm | exact tp_g ‹_› | exact tn_s (Int.not_le.mp ‹_›) | exact tp_u ‹_› | exact tp_j) | ((show @Eq Int _ _); first | exact tn_e ‹_› | exact tn_f ‹_› | exact tn_g ‹_› | exact tp_m ‹_› | exact tp_n ‹_› | exact tp_o ‹_› ‹_› | exact tp_w ‹_› ‹_› | exact tp_y) | exact tp_f ‹_› ‹_› | exact tp_f ‹_› | exact tp_f (Int.not_lt.mp ‹_›) | exact tp_t ‹_› ‹_› | exact Nat.ne_of_gt ‹_› | exact Nat.ne_of_lt ‹_› | exact Nat.ne_of_gt (Nat.lt_trans ‹_› ‹_›))
  k_with "m_sd1" => ((case k1 | k2 | k3 | k4 | k5 => assumption))
  k_with "m_sd2" => ((case kK => first | exact rfl | assumption); (case kd => first | (dsimp only [ktrTop, Around.deeper]; omega) | ktr_room); (case ku => first | (dsimp only [ktrTop, Around.deeper]; omega) | ktr_units))
  k_with "m_steps" => (repeat' (first | ((first | (k_unfold) | fail); (try dsimp only)) | (first | (k_extra "m_ret") | fail) | (first | (walk1) | fail) | (dsimp only; (first | (walk1) | fail)) | fail "no step"))
  k_with "m_ret" => ((with_reducible refine' hret _ _ _ _ ?_ ?e2 ?e3); (case e2 => k_asm); (case e3 => k_asm); (try k_extra "m_val"))
  k_with "m_call" => k_dflt ((first | (refine' GivesU.useM ?G ?k1 ?k2 ?k3 ?k4 ?k5 ?kK ?kd ?ku ?_; k_extra "m_sd1"; (case G => k_extra "m_conU"); k_extra "m_sd2"; intro r9 news9 h9 tk9 hR9 F9 N9; (try k_sweep); k_extra "m_openU" <;> ((try dsimp only); (try k_fold))) | fail))
  k_with "m_ne" => ((with_reducible refine ofs_ne ?_); simp only [ne_eq, String.reduceEq, not_false_eq_true]; done)
  k_with "m_look" => (first | k_dflt (exact rfl) | repeat (first | with_reducible exact look_here | with_reducible exact look_ithere | with_reducible refine Eq.trans (look_next (by k_extra "m_ne")) ?_ | with_reducible refine Eq.trans (look_itnext (by k_extra "m_ne")) ?_ | with_reducible refine Eq.trans (look_off (by k_extra "m_off")) ?_ | with_reducible refine Eq.trans look_nil ?_ | assumption | fail "m_look"))
  k_with "m_kind" => (first | kernel_rfl! | k_dflt (exact rfl) | repeat (first | with_reducible exact kind_here | with_reducible refine Eq.trans (kind_next (by k_extra "m_ne")) ?_ | fail "m_kind"))
  k_with "m_ev" => (with_reducible refine' ev_name ?k0 ?k1 ?k2 ?k5 ?k3 ?k6; (case k5 => k_extra "m_kind"); (case k0 => first | assumption | k_dflt assumption); (case k1 => assumption); (case k2 => assumption); (case k3 => k_dflt k_is); (case k6 => simp only [ne_eq, String.reduceEq, not_false_eq_true]))
  k_with "m_ev" => (with_reducible refine' ev_ld ?k1 ?k4 ?k2 ?k5; (case k4 => k_extra "m_kind"); (case k1 => first | assumption | k_dflt assumption); (case k2 => k_extra "m_look"); (case k5 => simp only [ne_eq, String.reduceEq, not_false_eq_true]))
  k_with "m_spl" => (with_reducible first | (refine' args_ev1 ?zv1 ?_; (case zv1 => k_extra "m_ev")) | (refine' args_ev2 ?zv1 ?zv2 ?_; (case zv1 => k_extra "m_ev"); (case zv2 => k_extra "m_ev")) | (refine' args_ev3 ?zv1 ?zv2 ?zv3 ?_; (case zv1 => k_extra "m_ev"); (case zv2 => k_extra "m_ev"); (case zv3 => k_extra "m_ev")) | (refine' args_ev4 ?zv1 ?zv2 ?zv3 ?zv4 ?_; (case zv1 => k_extra "m_ev"); (case zv2 => k_extra "m_ev"); (case zv3 => k_extra "m_ev"); (case zv4 => k_extra "m_ev")))
  k_with "m_cal" => (with_reducible refine' call_ev ?zv1 ?_; (case zv1 => k_extra "m_ev"))
  k_with "m_cam" => (with_reducible refine' method_ev ?zv1 ?_; (case zv1 => k_extra "m_ev"))
  k_with "m_rete" => (with_reducible refine' ret_ev ?zv1 ?_; (case zv1 => k_extra "m_ev"))
  k_with "m_sub" => (intro q9 h9; repeat' (first | exact h9 | refine List.mem_append_left _ ?_ | refine List.mem_cons_of_mem _ ?_))
  k_with "m_conU" => ((with_reducible show GivesU _ 316 _ _ _ _); exact table_new_ok)
  trivial
noncomputable def updK (syn : Kd → Addr) (k : Kd) (a : Addr) : Kd → Addr := fun j => if j = k then a else syn j
noncomputable def kvK (syn : Kd → Addr) : Nat → List (Int × Value)
  | 0 => []
  | 1 => [(97, .ref (syn .w)), (98, .ref (syn .w))]
  | 2 => [(97, .ref (syn .w)), (98, .ref (syn .w)), (95, .ref (syn .u))]
  | 3 => [(97, .ref (syn .w)), (98, .ref (syn .w)), (95, .ref (syn .u)), (32, .ref (syn .b)), (10, .ref (syn .b)), (9, .ref (syn .b))]
  | 4 => [(97, .ref (syn .w)), (98, .ref (syn .w)), (95, .ref (syn .u)), (32, .ref (syn .b)), (10, .ref (syn .b)), (9, .ref (syn .b)), (40, .ref (syn .o))]
  | _ => tabKv syn
noncomputable def kOf : Nat → Kd
  | 0 => .w
  | 1 => .u
  | 2 => .b
  | 3 => .o
  | _ => .c
noncomputable def notDk (o : Obj) : Bool := match o.data with
  | .seq vs _ => !(vs.size == 2 && (match vs[0]? with | some (Value.ref _) => true | _ => false))
  | _ => true
theorem notDk_ne {o : Obj} (h : notDk o = true) (ce : Addr) (v : Value) (c : Nat) : o ≠ listOf [.ref ce, v].toArray c := fun e => by
  rw [e] at h
  cases h
theorem notDk_dict {w : World} {o : Obj} {kvs : List (Int × Value)} (h : o.IsDictOf (PySem.intKind PR w) kvs) : notDk o = true ∧ o.cls = .type "dict" := by
  obtain ⟨es, n, ⟨c1, _⟩, c2, _⟩ := h
  refine ⟨?_, c1⟩
  unfold notDk
  rw [c2]
inductive TabJ (w : World) (rd tb td : Addr) (TD : Obj) (base : Led) (i : Nat) (m : Str → Option Value) (nw : Led) : Prop where
  | mk  (o : Obj) (syn : Kd → Addr) (own : Led) (q1 : nw = (rd, o) :: (tb, instObj 316 td) :: (td, TD) :: (own ++ base)) (q2 : o.IsDictOf (PySem.intKind PR w) (kvK syn i)) (q3 : (∀ q ∈ own ++ base, q.1 ≠ rd)) (q4 : (∀ j, j < i → SynIn own (syn (kOf j)) (kOf j))) (q5 : (∀ q ∈ own, notDk q.2 = true ∧ NotIt q.2)) (q6 : m (Str.ofString "found") = some (.ref tb))
theorem kOf_inj : ∀ i : Fin 5, ∀ j : Fin 5, j ≠ i → kOf j.1 ≠ kOf i.1 := by decide
theorem syn_step {i : Nat} {own : Led} {syn : Kd → Addr} {a dx : Addr} {es : List DictEntry} {n : Nat} (hi : i < 5) (h : ∀ j, j < i → SynIn own (syn (kOf j)) (kOf j)) (hs : SynIn [(a, instObj 235 dx), (dx, dictOf es n)] a (kOf i)) :
    ∀ j, j < i + 1 → SynIn ((a, instObj 235 dx) :: (dx, dictOf es n) :: own) (updK syn (kOf i) a (kOf j)) (kOf j) := by
  intro j hj
  by_cases e : j = i
  · subst e
    unfold updK
    rw [if_pos rfl]
    exact hs.mono fun q hq => List.mem_append_left own hq
  · unfold updK
    rw [if_neg (kOf_inj ⟨i, hi⟩ ⟨j, by omega⟩ (fun q => e (congrArg Fin.val q)))]
    exact (h j (by omega)).mono fun q hq => .tail _ (.tail _ hq)
theorem tabJ_next {w : World} {rd tb td : Addr} {TD : Obj} {base : Led} {i : Nat} {m : Str → Option Value} {x : Str} {o' : Obj} {syn : Kd → Addr} {own : Led} {a dx : Addr} {es : List DictEntry} {n : Nat} (hi : i < 5)
    (hd : o'.IsDictOf (PySem.intKind PR w) (putAll (kvK syn i) a (KStt.codes x))) (hk : putAll (kvK syn i) a (KStt.codes x) = kvK (updK syn (kOf i) a) (i + 1)) (hne : ∀ q ∈ own ++ base, q.1 ≠ rd) (h1 : @LT.lt Nat _ rd dx) (h2 : @LT.lt Nat _ dx a)
    (hs : ∀ j, j < i → SynIn own (syn (kOf j)) (kOf j)) (hsy : SynIn [(a, instObj 235 dx), (dx, dictOf es n)] a (kOf i)) (ho : ∀ q ∈ own, notDk q.2 = true ∧ NotIt q.2) (hm : m (Str.ofString "found") = some (.ref tb)) :
    TabJ w rd tb td TD base (i + 1) m ((rd, o') :: (tb, instObj 316 td) :: (td, TD) :: (((a, instObj 235 dx) :: (dx, dictOf es n) :: own) ++ base)) :=
  ⟨o', updK syn (kOf i) a, _, rfl, hk ▸ hd, List.forall_mem_cons.mpr ⟨by k_ne, List.forall_mem_cons.mpr ⟨by k_ne, hne⟩⟩, syn_step hi hs hsy,
    List.forall_mem_cons.mpr ⟨⟨rfl, .inl ⟨by nofun, by nofun⟩⟩, List.forall_mem_cons.mpr ⟨⟨rfl, .inl ⟨by simp, by simp⟩⟩, ho⟩⟩, hm⟩
theorem tabJ_zero {w : World} {rd tb td : Addr} {TD : Obj} {base : Led} {m : Str → Option Value} {o : Obj} (hd : o.IsDictOf (PySem.intKind PR w) ([] : List (Int × Value))) (hne : ∀ q ∈ base, q.1 ≠ rd) (hm : m (Str.ofString "found") = some (.ref tb)) :
    TabJ w rd tb td TD base 0 m ((rd, o) :: (tb, instObj 316 td) :: (td, TD) :: base) :=
  ⟨o, fun _ => 0, [], rfl, hd, hne, (fun _ h => absurd h (Nat.not_lt_zero _)), (fun _ h => nomatch h), hm⟩
theorem tabJ_found {w : World} {rd tb td : Addr} {TD : Obj} {base : Led} {i : Nat} {m : Str → Option Value} {nw : Led} (J : TabJ w rd tb td TD base i m nw) : m (Str.ofString "found") = some (.ref tb) := by
  obtain ⟨_, _, _, _, _, _, _, _, q⟩ := J
  exact q
theorem tabJ_end {w : World} {rd tb td : Addr} {h1 h2 : Int} {k1 k2 : Tok} {base news : Led} {m : Str → Option Value} {nw : Led} (J : TabJ w rd tb td (tabD rd h1 h2 k1 k2) base 5 m nw) (hr : (rd == sysModules) = false)
    (hb : ∀ q ∈ news, q ∈ base) (hB : ∀ q ∈ base, q ∈ news ∨ notDk q.2 = true) :
    ∃ syn, TableIn w nw tb syn ∧ (∀ q ∈ news, q ∈ nw) ∧ ∀ q ∈ nw, q ∈ news ∨ notDk q.2 = true := by
  obtain ⟨o, syn, own, rfl, hd, _, hs, ho, _⟩ := J
  refine ⟨syn, ⟨td, rd, o, h1, h2, k1, k2, .tail _ (.head _), .tail _ (.tail _ (.head _)), .head _, hd, hr, fun k => ?_⟩, fun q hq => .tail _ (.tail _ (.tail _ (List.mem_append_right _ (hb q hq)))), ?_⟩
  · have sub : ∀ q ∈ own, q ∈ (rd, o) :: (tb, instObj 316 td) :: (td, tabD rd h1 h2 k1 k2) :: (own ++ base) := fun q hq => .tail _ (.tail _ (.tail _ (List.mem_append_left _ hq)))
    cases k with
    | w => exact (hs 0 (by decide)).mono sub
    | u => exact (hs 1 (by decide)).mono sub
    | b => exact (hs 2 (by decide)).mono sub
    | o => exact (hs 3 (by decide)).mono sub
    | c => exact (hs 4 (by decide)).mono sub
  · refine List.forall_mem_cons.mpr ⟨.inr (notDk_dict hd).1, List.forall_mem_cons.mpr ⟨.inr rfl, List.forall_mem_cons.mpr ⟨.inr rfl, fun q hq => ?_⟩⟩⟩
    rcases List.mem_append.mp hq with hq | hq
    · exact .inr (ho q hq).1
    · exact hB q hq
theorem tabJ_ok {w : World} {rd tb td l : Addr} {h1 h2 : Int} {k1 k2 : Tok} {lo : Obj} {base : Led} {i : Nat} {m : Str → Option Value} {nw : Led} (J : TabJ w rd tb td (tabD rd h1 h2 k1 k2) base i m nw) (hl : (l, lo) ∈ base) (hB : ∀ q ∈ base, NotIt q.2) :
    (l, lo) ∈ nw ∧ ∀ p ∈ nw, NotIt p.2 := by
  obtain ⟨o, syn, own, rfl, hd, _, hs, ho, _⟩ := J
  refine ⟨.tail _ (.tail _ (.tail _ (List.mem_append_right _ hl))), List.forall_mem_cons.mpr ⟨.inl ⟨by rw [(notDk_dict hd).2]; simp, by rw [(notDk_dict hd).2]; simp⟩, List.forall_mem_cons.mpr ⟨.inl ⟨by nofun, by nofun⟩, List.forall_mem_cons.mpr ⟨.inl ⟨by simp, by simp⟩, fun q hq => ?_⟩⟩⟩⟩
  rcases List.mem_append.mp hq with hq | hq
  · exact (ho q hq).2
  · exact hB q hq
theorem endN9 {h₀ h : Heap} {L : Addr} {a b c d e f : Addr × Obj} {own base : Led} (N : News h₀ L h (a :: b :: c :: d :: e :: f :: (own ++ base))) : News h₀ L h (f :: a :: b :: c :: ((d :: e :: own) ++ base)) :=
  fun q hq => N q (by
    simp only [List.mem_cons, List.cons_append] at hq ⊢
    rcases hq with h | h | h | h | h | h | h <;> simp [h])
theorem stepN9 {h₀ h : Heap} {L : Addr} {a b c f : Addr × Obj} {own : Led} (N : News h₀ L h (f :: a :: b :: c :: own)) : News h₀ L h (a :: b :: c :: f :: own) :=
  fun q hq => N q (by
    simp only [List.mem_cons] at hq ⊢
    rcases hq with h | h | h | h | h <;> simp [h])
theorem reord9 {h₀ h : Heap} {L : Addr} {l t1 t2 t3 t4 t5 rd tb td : Addr × Obj} {news : Led} (N : News h₀ L h (l :: t5 :: t4 :: t3 :: t2 :: t1 :: rd :: tb :: td :: news)) : News h₀ L h (rd :: tb :: td :: l :: t5 :: t4 :: t3 :: t2 :: t1 :: news) :=
  fun q hq => N q (by
    simp only [List.mem_cons] at hq ⊢
    rcases hq with h | h | h | h | h | h | h | h | h | h <;> simp [h])
inductive TbR (w : World) (news : Led) (r : Value) (n' : Led) : Prop where
  | mk (tb : Addr) (syn : Kd → Addr) (q1 : r = .ref tb) (q2 : TableIn w n' tb syn) (q3 : ∀ q ∈ news, q ∈ n') (q4 : ∀ q ∈ n', q ∈ news ∨ notDk q.2 = true)
set_option maxHeartbeats 4000000 in
theorem table_ok {w : World} {news : Led} (hn : ∀ q ∈ news, NotIt q.2) :
    GivesU w 734 9 [] news (TbR w news) := (by exact qz : Qz _ (by
  k_with "m_conU" => ((with_reducible show GivesU _ 278 _ [_, _, Value.str (Str.ofString "w") _] _ _); k_dflt (first | (exact modify_ok (k := .w) (@fun _ _ => read1_ok (k := .w) (.inl rfl)) (List.forall_mem_cons.mpr ⟨hI9, hne9⟩) (by k_ne) (by k_ne) hd9 (Nat.le_of_ble_eq_true rfl)) | fail))
  k_with "m_conU" => ((with_reducible show GivesU _ 278 _ [_, _, Value.str (Str.ofString "_") _] _ _); k_dflt (first | (exact modify_ok (k := .u) (@fun _ _ => read1_ok (k := .u) (.inr (.inl rfl))) (List.forall_mem_cons.mpr ⟨hI9, hne9⟩) (by k_ne) (by k_ne) hd9 (Nat.le_of_ble_eq_true rfl)) | fail))
  k_with "m_conU" => ((with_reducible show GivesU _ 278 _ [_, _, Value.str (Str.ofString " ") _] _ _); k_dflt (first | (exact modify_ok (k := .b) (@fun _ _ => read1_ok (k := .b) (.inr (.inr rfl))) (List.forall_mem_cons.mpr ⟨hI9, hne9⟩) (by k_ne) (by k_ne) hd9 (Nat.le_of_ble_eq_true rfl)) | fail))
  k_with "m_conU" => ((with_reducible show GivesU _ 278 _ [_, _, Value.str (Str.ofString "()") _] _ _); k_dflt (first | (exact modify_ok (k := .o) (@read_o_ok w) (List.forall_mem_cons.mpr ⟨hI9, hne9⟩) (by k_ne) (by k_ne) hd9 (Nat.le_of_ble_eq_true rfl)) | fail))
  k_with "m_conU" => ((with_reducible show GivesU _ 278 _ [_, _, Value.str (Str.ofString ")(") _] _ _); k_dflt (first | (exact modify_ok (k := .c) (@read_c_ok w) (List.forall_mem_cons.mpr ⟨hI9, hne9⟩) (by k_ne) (by k_ne) hd9 (Nat.le_of_ble_eq_true rfl)) | fail))
  k_with "m_openU" => (rcases hR9 with ⟨sa, sx, ses, sn, o7, rfl, rfl, hd7, hs7, hlt7, hsx7⟩; have hrs7 := ltN (hlt7 _ (.head _)))
  k_with "m_openU" => (rcases hR9 with ⟨tb, td, rd, o8, h1, h2, k1, k2, rfl, rfl, hd8, hr8, lt1, lt2, lt3⟩; have ltn : ∀ q ∈ news, q.1 ≠ rd := fun q hq => Nat.ne_of_lt (Nat.lt_trans (lt1 q hq) (Nat.lt_trans lt2 lt3)))
  k_with "m_for" => (first | ((first | (rename Fr _ _ _ _ => lF9) | fail); (first | (with_reducible refine' For_turns (h₀ := g') ?zF ?_ ?zs ?zE) | fail); (first | (case zF => k_dflt (exact lF9)) | fail); (first | (case zs => k_dflt (exact fun _ => rfl)) | fail); (first | (case zE => k_dflt passes_own) | fail)) | fail)
  k_with "m_iter" => (first | (
    (rename Fr _ _ _ _ => lF); (rename News _ _ _ _ => lN)
    with_unfolding_all refine' list_J (by rfl) (TabJ w rd tb td (tabD rd h1 h2 k1 k2) _) (by rfl) lF (reord9 lN) (List.Mem.tail _ (List.Mem.tail _ (List.Mem.tail _ (List.Mem.head _)))) rfl rfl ?h0 ?hl ?st ?dn
    (case h0 => (refine tabJ_zero hd8 ?q1 ?q2; (case q2 => k_extra "m_look"); (case q1 => exact List.forall_mem_cons.mpr ⟨by k_ne, List.forall_mem_cons.mpr ⟨by k_ne, List.forall_mem_cons.mpr ⟨by k_ne, List.forall_mem_cons.mpr ⟨by k_ne, List.forall_mem_cons.mpr ⟨by k_ne, List.forall_mem_cons.mpr ⟨by k_ne, ltn⟩⟩⟩⟩⟩⟩)))
    (case hl => exact fun i m nw J => tabJ_ok J (List.Mem.head _) (List.forall_mem_cons.mpr ⟨.inl ⟨by simp, by simp⟩, List.forall_mem_cons.mpr ⟨.inl ⟨by simp, by simp⟩, List.forall_mem_cons.mpr ⟨.inl ⟨by simp, by simp⟩, List.forall_mem_cons.mpr ⟨.inl ⟨by simp, by simp⟩, List.forall_mem_cons.mpr ⟨.inl ⟨by simp, by simp⟩, List.forall_mem_cons.mpr ⟨.inl ⟨by simp, by simp⟩, hn⟩⟩⟩⟩⟩⟩))
    rotate_left
    (intro h tk m nw hJ F9 N9; (have hJ5 : TabJ w rd tb td (tabD rd h1 h2 k1 k2) _ 5 m nw := hJ); (have hm9 : m (Str.ofString "found") = some (.ref tb) := tabJ_found hJ5); (obtain ⟨syn9, ht9, hs9, hk9⟩ := tabJ_end (news := news) hJ5 hr8 (by k_extra "m_sub") (List.forall_mem_cons.mpr ⟨.inr rfl, List.forall_mem_cons.mpr ⟨.inr rfl, List.forall_mem_cons.mpr ⟨.inr rfl, List.forall_mem_cons.mpr ⟨.inr rfl, List.forall_mem_cons.mpr ⟨.inr rfl, List.forall_mem_cons.mpr ⟨.inr rfl, fun _ h => .inl h⟩⟩⟩⟩⟩⟩)); (try k_fold))
    rotate_left
    (intro i v m nw h tk I oI hcI hv hJ F9 N9; (obtain ⟨o9, syn, own, rfl, hd9, hne9, hsy9, how9, hm9⟩ := hJ); (have hI9 : I ≠ rd := ne_addr N9 (.head _) (.tail _ (.head _)) (fun e => by (rw [e, (notDk_dict hd9).2] at hcI; simp at hcI))); (have lN9 := stepN9 N9); clear N9; ((rcases i with _ | _ | _ | _ | _ | i) <;> first | ((obtain rfl := Option.some.inj hv); (try k_fold)) | exact absurd hv (by simp)))) | fail)
  k_with "TPost" => (dsimp only [TPost])
  k_with "TEnd" => k_dflt (first | (refine' TEnd.intro ?zF ?zN ?zJ; (case zF => assumption); (case zN => exact endN9 (by assumption)); (case zJ => (refine' tabJ_next (by decide) hd7 ?zk hne9 hrs7 hsx7 hsy9 hs7 how9 ?zm; (case zk => (first | (rfl) | fail)); (case zm => (first | (k_extra "m_look") | fail))))) | fail)
  k_with "m_val" => (first | (exact ⟨_, syn9, rfl, ht9, hs9, hk9⟩) | fail)
  constructor
  intro pF loF meF mgF mbF dp un gd cnF csF aF cdF clF outer A₀ base h₀ LF mF sF QF EF B F X N T hk hd hu hret
  refine wpAny_call ?_
  k_dflt (refine' code_defK ([]).reverse ?k1 ?k2 ?k3 ?k4 ?k5 ?kA ?kF ?kK ?k6 ?k7 ?k8 ?k9 ?kB ?_ ?c2 ?c3 ?c4 ?c5; (case kA => exact rfl); (case kF => exact rfl); (case kK => exact hk); (case k1 => exact B); (case k2 => exact F); (case k3 => exact X); (case k4 => exact N); (case k5 => exact T); (case k6 => k_is); (case k7 => k_is); (case k8 => ktr_room); (case k9 => first | exact BindsTo.of_eq rfl | exact binds_K (by k_in) rfl (by k_is) rfl rfl rfl); (case c5 => decide); (case kB => exact locs (by kernel_rfl!)); (case c2 => exact rfl); (case c3 => exact rfl); (case c4 => exact rfl); k_whole; intro g' L' h' FG' F' N' B' X' T'; (try dsimp only [List.reverse, List.reverseAux] at F'); (try dsimp only); (try k_fold); (try (show (let ak : Around := _; wpAny _ ak _ _ _ _)); intro ak))
  k_extra "m_steps"))
theorem u70 : True := by
  k_with_none
  k_with "m_om" => (with_reducible first | decide | assumption | ((show @LT.lt Nat _ _ _); first | exact rm_a ‹_› rfl | exact rm_b ‹_› rfl | exact rm_c ‹_› | exact rm_d ‹_› | exact tn_a ‹_› | exact tn_b ‹_› | exact tn_c ‹_› | exact tn_d ‹_› | exact rm_e ‹_› rfl | exact tp_d ‹_› | exact tp_e ‹_› ‹_› | exact tp_h ‹_› | exact tp_v ‹_› | exact tr_a ‹_›) | ((show @LE.le Nat _ _ _); first | exact tn_h ‹_› | exact tp_c ‹_› | exact tp_k ‹_› ‹_› | exact tp_l ‹_› ‹_› ‹_› | exact tp_x ‹_› ‹_› | exact Nat.le_trans ‹_› ‹_›) | ((show @LT.lt Int _ _ _); first | exact tn_m ‹_› | exact tn_n ‹_› | exact tp_p ‹_› ‹_› ‹_› ‹_› | exact tp_q ‹_› ‹_› ‹_› | exact Int.lt_of_toNat_lt ‹_› | exact Int.lt_of_lt_of_le ‹_› ‹_› | exact Int.sub_left_lt_of_lt_add ‹_› | exact tr_b ‹_›) | ((show @LE.le Int _ _ _); first | exact tn_i ‹_› | exact tn_j ‹_› | exact tn_k ‹_› | exact tn_l ‹_› | exact tn_o ‹_› | exact tp_i ‹_› ‹_› | exact tp_a ‹_› ‹_› | exact tp_a1 ‹_› ‹_› | exact tp_b ‹_› | exact tp_r ‹_› ‹_› | exact tp_s ‹_› | exact Int.le_of_lt (Int.not_le.mp ‹_›) | exact Int.sub_nonneg_of_le ‹_› | exact Int.sub_nonneg_of_le (tn_i ‹_›) | exact Int.le_add_of_nonneg_right (Int.natCast_nonneg _)) | ((show @Eq Nat _ _); first | exact tn_s ‹_› | exact tn_t ‹_› | exact (tn_s ‹_›).symm | exact tp_g ‹_› | exact tn_s (Int.not_le.mp ‹_›) | exact tp_u ‹_› | exact tp_j) | ((show @Eq Int _ _); first | exact tn_e ‹_› | exact tn_f ‹_› | exact tn_g ‹_› | exact tp_m ‹_› | exact tp_n ‹_› | exact tp_o ‹_› ‹_› | exact tp_w ‹_› ‹_› | exact tp_y) | exact tp_f ‹_› ‹_› | exact tp_f ‹_› | exact tp_f (Int.not_lt.mp ‹_›) | exact tp_t ‹_› ‹_› | exact Nat.ne_of_gt ‹_› | exact Nat.ne_of_lt ‹_› | exact Nat.ne_of_gt (Nat.lt_trans ‹_› ‹_›))
  k_with "m_steps" => (repeat' (first | ((first | (k_unfold) | fail); (try dsimp only)) | (first | (k_extra "m_ret") | fail) | (first | (walk1) | fail) | (dsimp only; (first | (walk1) | fail)) | fail "no step"))
  k_with "m_ret" => ((with_reducible refine' hret _ _ _ _ ?_ ?e2 ?e3); (case e2 => k_asm); (case e3 => k_asm); (try k_extra "m_val"))
  k_with "m_ite" => (first | with_reducible refine ite_tt ?_ | with_reducible refine ite_ff ?_ | (with_reducible refine dec_pos ?c ?_; (case c => omega)) | (with_reducible refine dec_neg ?c ?_; (case c => omega)) | (with_reducible refine ine_pos ?c ?_; (case c => omega)) | (with_reducible refine ine_neg ?c ?_; (case c => omega)) | (with_reducible refine ieq_pos ?c ?_; (case c => omega)) | (with_reducible refine ieq_neg ?c ?_; (case c => omega)) | (with_reducible refine split_dec ?_ ?_ <;> intro _) | (with_reducible refine split_ine ?_ ?_ <;> intro _) | (with_reducible refine split_ieq ?_ ?_ <;> intro _))
  k_with "m_sub" => (intro q9 h9; repeat' (first | exact h9 | refine List.mem_append_left _ ?_ | refine List.mem_cons_of_mem _ ?_))
  trivial
inductive An where
  | pb (i : Int) (b : Bool)
  | pi (i j : Int)
  | at (i : Int)
  | off
  | bad (msg : Str) (g n : Int)
noncomputable abbrev sTold : Str := Str.ofString "told"
noncomputable abbrev sRef : Str := Str.ofString "refused"
noncomputable abbrev sScan : Str := Str.ofString "scan-error"
noncomputable def An.data : An → PyData
  | .pb i b => .list [.str sTold, .tuple [.int i, .bool b]]
  | .pi i j => .list [.str sTold, .tuple [.int i, .int j]]
  | .at i => .list [.str sTold, .int i]
  | .off => .list [.str sTold, .none]
  | .bad msg g n => .list [.str sRef, .str sScan, .list [.str msg, .int g, .int n]]
noncomputable def An.mv (p : Int) : An → An
  | .pb i b => .pb (i + p) b
  | .pi i j => .pi (i + p) j
  | .at i => .at (i + p)
  | .off => .off
  | .bad msg g n => .bad msg (g + p) (n + p)
inductive AnPb (nw : Led) (v : Value) (i : Int) (b : Bool) : Prop where
  | mk (a tp : Addr) (t t2 : Tok) (c : Nat) (q1 : v = .ref a) (q2 : (a, listOf [.str sTold t, .ref tp].toArray c) ∈ nw) (q3 : (tp, tupO [.int i t2, .bool b]) ∈ nw)
inductive AnPi (nw : Led) (v : Value) (i j : Int) : Prop where
  | mk (a tp : Addr) (t t2 t3 : Tok) (c : Nat) (q1 : v = .ref a) (q2 : (a, listOf [.str sTold t, .ref tp].toArray c) ∈ nw) (q3 : (tp, tupO [.int i t2, .int j t3]) ∈ nw)
inductive AnAt (nw : Led) (v : Value) (i : Int) : Prop where
  | mk (a : Addr) (t t2 : Tok) (c : Nat) (q1 : v = .ref a) (q2 : (a, listOf [.str sTold t, .int i t2].toArray c) ∈ nw)
inductive AnOff (nw : Led) (v : Value) : Prop where
  | mk (a : Addr) (t : Tok) (c : Nat) (q1 : v = .ref a) (q2 : (a, listOf [.str sTold t, .none].toArray c) ∈ nw)
inductive AnBad (nw : Led) (v : Value) (msg : Str) (g n : Int) : Prop where
  | mk (a lst : Addr) (t t0 t1 t2 t3 : Tok) (c c2 : Nat) (q1 : v = .ref a) (q2 : (a, listOf [.str sRef t, .str sScan t0, .ref lst].toArray c) ∈ nw) (q3 : (lst, listOf [.str msg t1, .int g t2, .int n t3].toArray c2) ∈ nw)
noncomputable def AnIn (nw : Led) (v : Value) : An → Prop
  | .pb i b => AnPb nw v i b
  | .pi i j => AnPi nw v i j
  | .at i => AnAt nw v i
  | .off => AnOff nw v
  | .bad msg g n => AnBad nw v msg g n
theorem AnIn.mono {nw nw' : Led} {v : Value} {x : An} (h : AnIn nw v x) (hs : ∀ q ∈ nw, q ∈ nw') : AnIn nw' v x := by
  cases x with
  | pb i b => obtain ⟨a, tp, t, t2, c, e, m1, m2⟩ := h; exact ⟨a, tp, t, t2, c, e, hs _ m1, hs _ m2⟩
  | pi i j => obtain ⟨a, tp, t, t2, t3, c, e, m1, m2⟩ := h; exact ⟨a, tp, t, t2, t3, c, e, hs _ m1, hs _ m2⟩
  | «at» i => obtain ⟨a, t, t2, c, e, m1⟩ := h; exact ⟨a, t, t2, c, e, hs _ m1⟩
  | off => obtain ⟨a, t, c, e, m1⟩ := h; exact ⟨a, t, c, e, hs _ m1⟩
  | bad msg g n => obtain ⟨a, lst, t, t0, t1, t2, t3, c, c2, e, m1, m2⟩ := h; exact ⟨a, lst, t, t0, t1, t2, t3, c, c2, e, hs _ m1, hs _ m2⟩
def MovR (p : Int) (x : An) (news : Led) (r : Value) (n' : Led) : Prop := (∀ q ∈ news, q ∈ n') ∧ ∃ own, AnIn own r (x.mv p) ∧ (∀ q ∈ own, q ∈ n') ∧ ∀ q ∈ own, ∀ z ∈ news, z.1 ≠ q.1
theorem mov1 {p : Int} {x : An} {news n' : Led} {r : Value} {e : Addr × Obj} (hs : ∀ q ∈ news, q ∈ n') (ha : AnIn [e] r (x.mv p)) (m : e ∈ n') (h : ∀ z ∈ news, z.1 ≠ e.1) : MovR p x news r n' :=
  ⟨hs, [e], ha, fun q hq => by rw [List.mem_singleton.mp hq]; exact m, fun q hq => by rw [List.mem_singleton.mp hq]; exact h⟩
theorem mov2 {p : Int} {x : An} {news n' : Led} {r : Value} {e e' : Addr × Obj} (hs : ∀ q ∈ news, q ∈ n') (ha : AnIn [e, e'] r (x.mv p)) (m : e ∈ n') (m' : e' ∈ n') (h : ∀ z ∈ news, z.1 ≠ e.1) (h' : ∀ z ∈ news, z.1 ≠ e'.1) : MovR p x news r n' :=
  ⟨hs, [e, e'], ha, List.forall_mem_cons.mpr ⟨m, List.forall_mem_cons.mpr ⟨m', fun _ h => nomatch h⟩⟩, List.forall_mem_cons.mpr ⟨h, List.forall_mem_cons.mpr ⟨h', fun _ h => nomatch h⟩⟩⟩
set_option maxHeartbeats 4000000 in
theorem moved_pb {w : World} {news : Led} {a : Addr} {p i : Int} {b : Bool} {t : Tok} (h : AnIn news (.ref a) (.pb i b)) : GivesU w 727 3 [.ref a, .int p t] news (MovR p (.pb i b) news) := (by exact qz : Qz _ (by
  obtain ⟨a', tp, t1, t2, c, e, m1, m2⟩ := h
  obtain rfl : a = a' := by injection e
  k_with "m_offl" => ((try dsimp only); first | exact fun z hz => Nat.ne_of_lt (allLt_mem _ (And.right (by assumption)) z hz) | exact fun z hz => Nat.ne_of_lt (allLt_mem _ (And.right (And.right (by assumption))) z hz) | exact fun z hz => Nat.ne_of_lt (allLt_mem _ (by assumption) z hz) | exact fun z hz => Nat.ne_of_lt (allLt_mem _ (And.right (And.right (And.right (by assumption)))) z hz) | fail "m_offl")
  k_with "m_val" => (first | (exact mov2 (x := .pb i b) (by k_extra "m_sub") ⟨_, _, _, _, _, rfl, .head _, .tail _ (.head _)⟩ (by k_mem) (by k_mem) (by k_extra "m_offl") (by k_extra "m_offl")) | fail)
  constructor
  intro pF loF meF mgF mbF dp un gd cnF csF aF cdF clF outer A₀ base h₀ LF mF sF QF EF B F X N T hk hd hu hret
  refine wpAny_call ?_
  k_dflt (refine' code_defC (binds := [(Str.ofString "answer", .ref a), (Str.ofString "by", .int p t)]) ?k1 ?k2 ?k3 ?k4 ?k5 ?kA ?kF ?kK ?k6 ?k7 ?k8 ?k9 ?kB ?kD ?_ ?c2 ?c3 ?c4; (case kA => exact rfl); (case kF => exact rfl); (case kK => exact hk); (case k1 => exact B); (case k2 => exact F); (case k3 => exact X); (case k4 => exact N); (case k5 => exact T); (case k6 => k_is); (case k7 => k_is); (case k8 => ktr_room); (case k9 => first | exact BindsTo.of_eq rfl | exact binds_K (by k_in) rfl (by k_is) rfl rfl rfl); (case kB => exact rfl); (case kD => decide +kernel); (case c2 => exact rfl); (case c3 => exact rfl); (case c4 => exact rfl); k_whole; intro g' L' h' tk' cells' FG' F' N' Y' B' X' T' l1; k_cells Y'; (try simp only [List.cons_append, List.nil_append] at N'); (rw [show bindL _ _ _ = kstB (fun _ => none) [(Str.ofString "answer", .ref a)] from by kernel_rfl!] at F'); (try dsimp only); (try k_fold); (try (show (let ak : Around := _; wpAny _ ak _ _ _ _)); intro ak))
  k_extra "m_steps"))
set_option maxHeartbeats 4000000 in
theorem moved_pi {w : World} {news : Led} {a : Addr} {p i j : Int} {t : Tok} (h : AnIn news (.ref a) (.pi i j)) : GivesU w 727 3 [.ref a, .int p t] news (MovR p (.pi i j) news) := (by exact qz : Qz _ (by
  obtain ⟨a', tp, t1, t2, t3, c, e, m1, m2⟩ := h
  obtain rfl : a = a' := by injection e
  k_with "m_val" => (first | (exact mov2 (x := .pi i j) (by k_extra "m_sub") ⟨_, _, _, _, _, _, rfl, .head _, .tail _ (.head _)⟩ (by k_mem) (by k_mem) (by k_extra "m_offl") (by k_extra "m_offl")) | fail)
  constructor
  intro pF loF meF mgF mbF dp un gd cnF csF aF cdF clF outer A₀ base h₀ LF mF sF QF EF B F X N T hk hd hu hret
  refine wpAny_call ?_
  k_dflt (refine' code_defC (binds := [(Str.ofString "answer", .ref a), (Str.ofString "by", .int p t)]) ?k1 ?k2 ?k3 ?k4 ?k5 ?kA ?kF ?kK ?k6 ?k7 ?k8 ?k9 ?kB ?kD ?_ ?c2 ?c3 ?c4; (case kA => exact rfl); (case kF => exact rfl); (case kK => exact hk); (case k1 => exact B); (case k2 => exact F); (case k3 => exact X); (case k4 => exact N); (case k5 => exact T); (case k6 => k_is); (case k7 => k_is); (case k8 => ktr_room); (case k9 => first | exact BindsTo.of_eq rfl | exact binds_K (by k_in) rfl (by k_is) rfl rfl rfl); (case kB => exact rfl); (case kD => decide +kernel); (case c2 => exact rfl); (case c3 => exact rfl); (case c4 => exact rfl); k_whole; intro g' L' h' tk' cells' FG' F' N' Y' B' X' T' l1; k_cells Y'; (try simp only [List.cons_append, List.nil_append] at N'); (rw [show bindL _ _ _ = kstB (fun _ => none) [(Str.ofString "answer", .ref a)] from by kernel_rfl!] at F'); (try dsimp only); (try k_fold); (try (show (let ak : Around := _; wpAny _ ak _ _ _ _)); intro ak))
  k_extra "m_steps"))
set_option maxHeartbeats 4000000 in
theorem moved_at {w : World} {news : Led} {a : Addr} {p i : Int} {t : Tok} (h : AnIn news (.ref a) (.at i)) : GivesU w 727 3 [.ref a, .int p t] news (MovR p (.at i) news) := (by exact qz : Qz _ (by
  obtain ⟨a', t1, t2, c, e, m1⟩ := h
  obtain rfl : a = a' := by injection e
  k_with "m_val" => (first | (exact mov1 (x := .at i) (by k_extra "m_sub") ⟨_, _, _, _, rfl, .head _⟩ (by k_mem) (by k_extra "m_offl")) | fail)
  constructor
  intro pF loF meF mgF mbF dp un gd cnF csF aF cdF clF outer A₀ base h₀ LF mF sF QF EF B F X N T hk hd hu hret
  refine wpAny_call ?_
  k_dflt (refine' code_defC (binds := [(Str.ofString "answer", .ref a), (Str.ofString "by", .int p t)]) ?k1 ?k2 ?k3 ?k4 ?k5 ?kA ?kF ?kK ?k6 ?k7 ?k8 ?k9 ?kB ?kD ?_ ?c2 ?c3 ?c4; (case kA => exact rfl); (case kF => exact rfl); (case kK => exact hk); (case k1 => exact B); (case k2 => exact F); (case k3 => exact X); (case k4 => exact N); (case k5 => exact T); (case k6 => k_is); (case k7 => k_is); (case k8 => ktr_room); (case k9 => first | exact BindsTo.of_eq rfl | exact binds_K (by k_in) rfl (by k_is) rfl rfl rfl); (case kB => exact rfl); (case kD => decide +kernel); (case c2 => exact rfl); (case c3 => exact rfl); (case c4 => exact rfl); k_whole; intro g' L' h' tk' cells' FG' F' N' Y' B' X' T' l1; k_cells Y'; (try simp only [List.cons_append, List.nil_append] at N'); (rw [show bindL _ _ _ = kstB (fun _ => none) [(Str.ofString "answer", .ref a)] from by kernel_rfl!] at F'); (try dsimp only); (try k_fold); (try (show (let ak : Around := _; wpAny _ ak _ _ _ _)); intro ak))
  k_extra "m_steps"))
set_option maxHeartbeats 4000000 in
theorem moved_off {w : World} {news : Led} {a : Addr} {p : Int} {t : Tok} (h : AnIn news (.ref a) (.off)) : GivesU w 727 3 [.ref a, .int p t] news (MovR p (.off) news) := (by exact qz : Qz _ (by
  obtain ⟨a', t1, c, e, m1⟩ := h
  obtain rfl : a = a' := by injection e
  k_with "m_val" => (first | (exact mov1 (x := .off) (by k_extra "m_sub") ⟨_, _, _, rfl, .head _⟩ (by k_mem) (by k_extra "m_offl")) | fail)
  constructor
  intro pF loF meF mgF mbF dp un gd cnF csF aF cdF clF outer A₀ base h₀ LF mF sF QF EF B F X N T hk hd hu hret
  refine wpAny_call ?_
  k_dflt (refine' code_defC (binds := [(Str.ofString "answer", .ref a), (Str.ofString "by", .int p t)]) ?k1 ?k2 ?k3 ?k4 ?k5 ?kA ?kF ?kK ?k6 ?k7 ?k8 ?k9 ?kB ?kD ?_ ?c2 ?c3 ?c4; (case kA => exact rfl); (case kF => exact rfl); (case kK => exact hk); (case k1 => exact B); (case k2 => exact F); (case k3 => exact X); (case k4 => exact N); (case k5 => exact T); (case k6 => k_is); (case k7 => k_is); (case k8 => ktr_room); (case k9 => first | exact BindsTo.of_eq rfl | exact binds_K (by k_in) rfl (by k_is) rfl rfl rfl); (case kB => exact rfl); (case kD => decide +kernel); (case c2 => exact rfl); (case c3 => exact rfl); (case c4 => exact rfl); k_whole; intro g' L' h' tk' cells' FG' F' N' Y' B' X' T' l1; k_cells Y'; (try simp only [List.cons_append, List.nil_append] at N'); (rw [show bindL _ _ _ = kstB (fun _ => none) [(Str.ofString "answer", .ref a)] from by kernel_rfl!] at F'); (try dsimp only); (try k_fold); (try (show (let ak : Around := _; wpAny _ ak _ _ _ _)); intro ak))
  k_extra "m_steps"))
theorem u71 : True := by
  k_with_none
  k_with "m_om" => (with_reducible first | decide | assumption | ((show @LT.lt Nat _ _ _); first | exact rm_a ‹_› rfl | exact rm_b ‹_› rfl | exact rm_c ‹_› | exact rm_d ‹_› | exact tn_a ‹_› | exact tn_b ‹_› | exact tn_c ‹_› | exact tn_d ‹_› | exact rm_e ‹_› rfl | exact tp_d ‹_› | exact tp_e ‹_› ‹_› | exact tp_h ‹_› | exact tp_v ‹_› | exact tr_a ‹_›) | ((show @LE.le Nat _ _ _); first | exact tn_h ‹_› | exact tp_c ‹_› | exact tp_k ‹_› ‹_› | exact tp_l ‹_› ‹_› ‹_› | exact tp_x ‹_› ‹_› | exact Nat.le_trans ‹_› ‹_›) | ((show @LT.lt Int _ _ _); first | exact tn_m ‹_› | exact tn_n ‹_› | exact tp_p ‹_› ‹_› ‹_› ‹_› | exact tp_q ‹_› ‹_› ‹_› | exact Int.lt_of_toNat_lt ‹_› | exact Int.lt_of_lt_of_le ‹_› ‹_› | exact Int.sub_left_lt_of_lt_add ‹_› | exact tr_b ‹_›) | ((show @LE.le Int _ _ _); first | exact tn_i ‹_› | exact tn_j ‹_› | exact tn_k ‹_› | exact tn_l ‹_› | exact tn_o ‹_› | exact tp_i ‹_› ‹_› | exact tp_a ‹_› ‹_› | exact tp_a1 ‹_› ‹_› | exact tp_b ‹_› | exact tp_r ‹_› ‹_› | exact tp_s ‹_› | exact Int.le_of_lt (Int.not_le.mp ‹_›) | exact Int.sub_nonneg_of_le ‹_› | exact Int.sub_nonneg_of_le (tn_i ‹_›) | exact Int.le_add_of_nonneg_right (Int.natCast_nonneg _)) | ((show @Eq Nat _ _); first | exact tn_s ‹_› | exact tn_t ‹_› | exact (tn_s ‹_›).symm | exact tp_g ‹_› | exact tn_s (Int.not_le.mp ‹_›) | exact tp_u ‹_› | exact tp_j) | ((show @Eq Int _ _); first | exact tn_e ‹_› | exact tn_f ‹_› | exact tn_g ‹_› | exact tp_m ‹_› | exact tp_n ‹_› | exact tp_o ‹_› ‹_› | exact tp_w ‹_› ‹_› | exact tp_y) | exact tp_f ‹_› ‹_› | exact tp_f ‹_› | exact tp_f (Int.not_lt.mp ‹_›) | exact tp_t ‹_› ‹_› | exact Nat.ne_of_gt ‹_› | exact Nat.ne_of_lt ‹_› | exact Nat.ne_of_gt (Nat.lt_trans ‹_› ‹_›))
  k_with "m_steps" => (repeat' (first | ((first | (k_unfold) | fail); (try dsimp only)) | (first | (k_extra "m_ret") | fail) | (first | (walk1) | fail) | (dsimp only; (first | (walk1) | fail)) | fail "no step"))
  k_with "m_ret" => ((with_reducible refine' hret _ _ _ _ ?_ ?e2 ?e3); (case e2 => k_asm); (case e3 => k_asm); (try k_extra "m_val"))
  k_with "m_ite" => (first | with_reducible refine ite_tt ?_ | with_reducible refine ite_ff ?_ | (with_reducible refine dec_pos ?c ?_; (case c => omega)) | (with_reducible refine dec_neg ?c ?_; (case c => omega)) | (with_reducible refine ine_pos ?c ?_; (case c => omega)) | (with_reducible refine ine_neg ?c ?_; (case c => omega)) | (with_reducible refine ieq_pos ?c ?_; (case c => omega)) | (with_reducible refine ieq_neg ?c ?_; (case c => omega)) | (with_reducible refine split_dec ?_ ?_ <;> intro _) | (with_reducible refine split_ine ?_ ?_ <;> intro _) | (with_reducible refine split_ieq ?_ ?_ <;> intro _))
  k_with "m_sub" => (intro q9 h9; repeat' (first | exact h9 | refine List.mem_append_left _ ?_ | refine List.mem_cons_of_mem _ ?_))
  trivial
theorem off1_mem {D : Addr} : ∀ (l : Led), LCg.Off1 D l → ∀ z ∈ l, z.1 ≠ D
  | [], _, _, h => nomatch h
  | p :: r, x, z, h => by
    rcases List.mem_cons.mp h with rfl | h
    · exact x.1
    · exact off1_mem r x.2 z h
noncomputable def BadJ (p : Int) (msg : Str) (g n : Int) : Nat → List Value → Prop
  | 0, ys => ys = []
  | 1, ys => ∃ t, ys = [.str msg t]
  | 2, ys => ∃ t u, ys = [.str msg t, .int (g + p) u]
  | _, ys => ∃ t u v, ys = [.str msg t, .int (g + p) u, .int (n + p) v]
set_option maxHeartbeats 4000000 in
theorem moved_bad {w : World} {news : Led} {a : Addr} {p g n : Int} {msg : Str} {t : Tok} (h : AnIn news (.ref a) (.bad msg g n)) : GivesU w 727 3 [.ref a, .int p t] news (MovR p (.bad msg g n) news) := (by exact qz : Qz _ (by
  obtain ⟨a', lst, t1, t0, t2, t3, t4, c, c2, e, m1, m2⟩ := h
  obtain rfl : a = a' := by injection e
  k_with "m_offl" => ((try dsimp only); first | exact fun z hz => Nat.ne_of_lt (allLt_mem _ (And.right (by assumption)) z hz) | exact fun z hz => Nat.ne_of_lt (allLt_mem _ (And.right (And.right (by assumption))) z hz) | exact fun z hz => Nat.ne_of_lt (allLt_mem _ (by assumption) z hz) | exact fun z hz => Nat.ne_of_lt (allLt_mem _ (And.right (And.right (And.right (by assumption)))) z hz) | exact fun z hz => Nat.ne_of_lt (allLt_mem _ (And.right (And.right (And.right (And.right (by assumption))))) z hz) | exact off1_mem _ (And.right (And.right (by assumption))) | exact off1_mem _ (And.right (by assumption)) | fail "m_offl")
  k_with "m_val" => (first | (exact mov2 (x := .bad msg g n) (by k_extra "m_sub") ⟨_, _, _, _, _, _, _, _, _, rfl, .head _, .tail _ (.head _)⟩ (by k_mem) (by k_mem) (by k_extra "m_offl") (by k_extra "m_offl")) | fail)
  k_with "m_comp" => k_dflt (first | (refine' LCg.ListComp_U ?zF (by with_unfolding_all rfl) (by decide) (by rfl) (by decide) (by rfl) ?_; (case zF => assumption)) | fail)
  k_with "m_rest" => k_dflt (first | (
    refine comp_same (BadJ p msg g n) (Or.inr ⟨_, by k_mem, rfl, _, rfl⟩) ?_ rfl ?_
    rotate_left
    (intro ys hJ; (obtain ⟨t7, t8, t9, rfl⟩ : ∃ t u v, ys = [.str msg t, .int (g + p) u, .int (n + p) v] := hJ))
    rotate_left
    (intro i v I oI C oC D m2 ys h tk E2 hi hJ hP hC hx F N; ((rcases i with _ | _ | _ | i) <;> first | ((obtain rfl : ys = [] := hJ); (obtain rfl : Value.str msg t2 = v := Option.some.inj hP)) | ((obtain ⟨t7, rfl⟩ : ∃ t, ys = [.str msg t] := hJ); (obtain rfl : Value.int g t3 = v := Option.some.inj hP)) | ((obtain ⟨t7, t8, rfl⟩ : ∃ t u, ys = [.str msg t, .int (g + p) u] := hJ); (obtain rfl : Value.int n t4 = v := Option.some.inj hP)) | exact absurd hi (by simp)))) | fail)
  k_with "TurnS" => (first | (first | exact ⟨_, _, rfl, by k_asm, by k_asm, _, rfl⟩ | exact ⟨_, _, rfl, by k_asm, by k_asm, _, _, rfl⟩ | exact ⟨_, _, rfl, by k_asm, by k_asm, _, _, _, rfl⟩) | fail)
  constructor
  intro pF loF meF mgF mbF dp un gd cnF csF aF cdF clF outer A₀ base h₀ LF mF sF QF EF B F X N T hk hd hu hret
  refine wpAny_call ?_
  k_dflt (refine' code_defC (binds := [(Str.ofString "answer", .ref a), (Str.ofString "by", .int p t)]) ?k1 ?k2 ?k3 ?k4 ?k5 ?kA ?kF ?kK ?k6 ?k7 ?k8 ?k9 ?kB ?kD ?_ ?c2 ?c3 ?c4; (case kA => exact rfl); (case kF => exact rfl); (case kK => exact hk); (case k1 => exact B); (case k2 => exact F); (case k3 => exact X); (case k4 => exact N); (case k5 => exact T); (case k6 => k_is); (case k7 => k_is); (case k8 => ktr_room); (case k9 => first | exact BindsTo.of_eq rfl | exact binds_K (by k_in) rfl (by k_is) rfl rfl rfl); (case kB => exact rfl); (case kD => decide +kernel); (case c2 => exact rfl); (case c3 => exact rfl); (case c4 => exact rfl); k_whole; intro g' L' h' tk' cells' FG' F' N' Y' B' X' T' l1; k_cells Y'; (try simp only [List.cons_append, List.nil_append] at N'); (rw [show bindL _ _ _ = kstB (fun _ => none) [(Str.ofString "answer", .ref a)] from by kernel_rfl!] at F'); (try dsimp only); (try k_fold); (try (show (let ak : Around := _; wpAny _ ak _ _ _ _)); intro ak))
  k_extra "m_steps"))
theorem moved_ok {w : World} {news : Led} {a : Addr} {p : Int} {x : An} {t : Tok} (h : AnIn news (.ref a) x) : GivesU w 727 3 [.ref a, .int p t] news (MovR p x news) := by
  cases x with
  | pb i b => exact moved_pb h
  | pi i j => exact moved_pi h
  | «at» i => exact moved_at h
  | off => exact moved_off h
  | bad msg g n => exact moved_bad h

theorem ex1 {α : Sort _} {p : α → Prop} {P : Prop} (h : ∃ x, p x) (k : ∀ x, p x → P) : P := h.elim k
theorem ex2 {α : Sort _} {p q : α → Prop} {P : Prop} (h : ∃ x, p x ∧ q x) (k : ∀ x, p x → q x → P) : P := h.elim fun x y => k x y.1 y.2
theorem ex3 {α : Sort _} {p q r : α → Prop} {P : Prop} (h : ∃ x, p x ∧ q x ∧ r x) (k : ∀ x, p x → q x → r x → P) : P := h.elim fun x y => k x y.1 y.2.1 y.2.2
theorem ex4 {α : Sort _} {p q r t : α → Prop} {P : Prop} (h : ∃ x, p x ∧ q x ∧ r x ∧ t x) (k : ∀ x, p x → q x → r x → t x → P) : P := h.elim fun x y => k x y.1 y.2.1 y.2.2.1 y.2.2.2
theorem ex5 {α : Sort _} {p q r t u : α → Prop} {P : Prop} (h : ∃ x, p x ∧ q x ∧ r x ∧ t x ∧ u x) (k : ∀ x, p x → q x → r x → t x → u x → P) : P := h.elim fun x y => k x y.1 y.2.1 y.2.2.1 y.2.2.2.1 y.2.2.2.2
theorem ViewIn.open {news : Led} {v : Addr} {cs : List Int} {p : Int} {P : Prop} (h : ViewIn news v cs p) (k : ∀ (dx lc : Addr) (h1 h2 : Int) (k1 k2 t : Tok) (vs : List Value) (n : Nat), (v, instObj 60 dx) ∈ news → (dx, dictOf [⟨h1, .str (Str.ofString "codes") k1, .ref lc⟩, ⟨h2, .str (Str.ofString "place") k2, .int p t⟩] 2) ∈ news → (lc, listOf vs.toArray n) ∈ news → IntsAre vs cs → cs.length ≤ 16 → 0 ≤ p → p ≤ 100 → P) : P := by
  obtain ⟨dx, lc, h1, h2, k1, k2, t, vs, n, m1, m2, m3, r4, r5, r6, r7⟩ := h
  exact k dx lc h1 h2 k1 k2 t vs n m1 m2 m3 r4 r5 r6 r7
section
variable {prog : Program} {w : World} {A₀ A : Around} {s : Shared} {base h₀ : Heap} {outer : List Env} {L : Addr} {m : Str → Option Value} {env : Env} {news : Led} {K : Frag} {p : Program} {loose : List Str} {mean : ExcName → Option Value} {mg mb : Str → Option Value}
  {R : Result → Shared → Prop} {name qual : Str} {params : Arguments} {body : List Stmt} {scope : Scope} {dV kV doc pm cdv ct oc : Value} {an od : Option Addr} {osl : Array (Option Value)} {f : Addr} {args : Args}
theorem code_defCT {binds : List (Str × Value)} (B : Below A₀ base outer h₀) (F : Fr h₀ L s.heap m) (X₀ : K.In h₀) (N : News h₀ L s.heap news) (T : Top p loose mean mg mb h₀) (XB : K.In base) (TB : Top p loose mean mg mb base) (D : KtsDicts (outer.filterMap (·.frame)) h₀)
    (hA : A.frames = some (env :: outer)) (hf : env.frame = some L) (hke : env.scope.kind = .function)
    (ho : K.lookup f = some ⟨oc, od, .func (fnOf name qual params body scope dV kV doc pm an cdv ct), osl⟩) (hcd : codeIn K cdv qual = true) (hroom : A.depth < recursionLimit)
    (hbind : BindsTo s (fnOf name qual params body scope dV kV doc pm an cdv ct) args binds) (hkind : (binds.all fun y => scope.names.lookup y.1 == some .local || scope.names.lookup y.1 == some .cell) = true)
    (hnd : ((cellsFrom 0 scope.names []).map (·.1)).Nodup)
    (h : ∀ g L' h₁ tk cells, Fr h₀ L g m → Fr g L' h₁ (bindL (envOfC qual scope L' f cdv).kindOf binds fun _ => none) → News g L' h₁ (cells ++ news) →
      CellsAre (bindC (envOfC qual scope L' f cdv).kindOf binds fun _ => none) (cellsFrom (L' + 1) scope.names []) cells → Below A base (env :: outer) g → K.In g → Top p loose mean mg mb g → KtsDicts ((env :: outer).filterMap (·.frame)) g → (∀ p ∈ news, p.1 < L') →
      wpAny (model prog w) (A.deeper (envOfC qual scope L' f cdv)) (execs body (envOfC qual scope L' f cdv))
        (fun fl s' => LeaveT K p loose mean mg mb A₀ base env outer h₀ L m g R (match fl with | .ret v => v | _ => .none) s')
        (fun e s' => wpAny (model prog w) (A.deeper (envOfC qual scope L' f cdv)) (leaving (envOfC qual scope L' f cdv) e) (fun _ s'' => R (.error e) s'') (fun e' s'' => R (.error e') s'') s')
        { s with heap := h₁, toks := tk })
    (hco : scope.isCoroutine = false) (hgen : scope.isGenerator = false) (hk : scope.kind = .function) : codeAny (model prog w) A (.call (.ref f) args) R s := by
  have X := X₀.keeps F.keep
  obtain ⟨FG, BG, st, DG, lv⟩ := groundT (K := K) (R := R) B F N XB TB D hA hf hke
  refine codeAny_call_function (fd := fnX name qual params body scope [] dV kV doc pm an cdv ct) hroom (X _ _ ho) rfl hco hgen rfl (codeRec_of X hcd) (hbind _ _ _ _ ?_)
  refine wpAny_newFunctionEnv_cells hk (kindsX hkind _) fun env' he s' x => ?_
  subst he
  refine ⟨(T.nolimit.keeps F.keep).keeps x.toInCall.keep, codeAny_func ?_⟩
  obtain ⟨h₁, tk, rfl, _⟩ := x.done
  have hk₁ := x.toInCall.keep
  obtain ⟨cells, NC, Y⟩ := Cl.news (h₀ := s.heap) (Nat.le_refl _) fun n c hm => ⟨x.cell n c (lookup_of_mem_nodup (cellsFrom_names scope.names 0 (s.heap.objs.size + 1) [] [] rfl ▸ hnd) hm), x.above n c hm⟩
  refine wpAny_mono (h _ s.heap.objs.size h₁ tk cells FG ⟨x.toInCall.ns, fun b o e => hk₁ b o (of_hideAll _ e), Nat.le_of_eq (hideAll_size _ _)⟩ (fun p hp => ?_) Y BG (X₀.keeps st) (T.keeps st) DG (fun p hp => Heap.lt_size (N p hp).1)) (fun fl s' hl => lv _ _ hl) fun _ _ y => y
  rcases List.mem_append.mp hp with hp | hp
  · refine ⟨(NC p hp).1, (NC p hp).2.1, ?_⟩
    cases q : (hideAll s.heap (news.map (·.1))).get? p.1 with
    | none => rfl
    | some o => have := of_hideAll _ q; rw [(NC p hp).2.2] at this; cases this
  · exact ⟨hk₁ _ _ (N p hp).1, Nat.ne_of_lt (Heap.lt_size (N p hp).1), hideAll_none _ (List.mem_map_of_mem hp)⟩
end
structure GivesC (w : World) (f : Addr) (d : Nat) (vs : List Value) (news : Led) (R : Value → Led → Prop) : Prop where
  run : ∀ (p : Program) (loose : List Str) (mean : ExcName → Option Value) (mg mb : Str → Option Value)
    (dp un : Nat) (gd : Option (List Code)) (cn : Str) (cs : Scope) (a : Addr) (ccd : Value) (cl : List (Str × Addr)) (outer : List Env)
    (A₀ : Around) (base h₀ : Heap) (L : Addr) (m : Str → Option Value) (s : Shared) (Q E : Value → Shared → Prop),
    Below A₀ base outer h₀ → Fr h₀ L s.heap m → (Mine.T.heap_1 w.params).In h₀ → News h₀ L s.heap news → Top p loose mean mg mb h₀ → (Mine.T.heap_1 w.params).In base → Top p loose mean mg mb base → CodeHd base 740 736 → KtsDicts (outer.filterMap (·.frame)) h₀ → cs.kind = .function →
    dp + d < recursionLimit → un + 8 * d < cLine →
    (∀ r news' h' tk' h₁, R r news' → KtsTurn (outer.filterMap (·.frame)) h₀ h₁ → Fr h₁ L h' m → News h₁ L h' news' → Below A₀ base outer h₁ → (Mine.T.heap_1 w.params).In h₁ → Top p loose mean mg mb h₁ → KtsDicts (outer.filterMap (·.frame)) h₁ → Q r { s with heap := h', toks := tk' }) →
    wpAny (model PR w) (ktrTop dp un gd cn cs L a ccd cl outer) (call (.ref f) vs) Q E s
theorem GivesT.use {w : World} {f : Addr} {d : Nat} {vs : List Value} {news : Led} {R : Value → Led → Prop}
    {p : Program} {loose : List Str} {mean : ExcName → Option Value} {mg mb : Str → Option Value}
    {dp un : Nat} {gd : Option (List Code)} {cn : Str} {cs : Scope} {a : Addr} {ccd : Value} {cl : List (Str × Addr)} {outer : List Env}
    {A₀ : Around} {base h₀ : Heap} {L : Addr} {m : Str → Option Value} {s : Shared} {Q E : Value → Shared → Prop} (G : GivesT w f d vs news R)
    (B : Below A₀ base outer h₀) (F : Fr h₀ L s.heap m) (X : (Mine.T.heap_1 w.params).In h₀) (N : News h₀ L s.heap news) (T : Top p loose mean mg mb h₀) (XB : (Mine.T.heap_1 w.params).In base) (TB : Top p loose mean mg mb base) (D : KtsDicts (outer.filterMap (·.frame)) h₀) (hk : cs.kind = .function)
    (hd : dp + d < recursionLimit) (hu : un + 8 * d < cLine)
    (hret : ∀ r news' h' tk' h₁, R r news' → KtsTurn (outer.filterMap (·.frame)) h₀ h₁ → Fr h₁ L h' m → News h₁ L h' news' → Below A₀ base outer h₁ → (Mine.T.heap_1 w.params).In h₁ → Top p loose mean mg mb h₁ → KtsDicts (outer.filterMap (·.frame)) h₁ → Q r { s with heap := h', toks := tk' }) :
    wpAny (model PR w) (ktrTop dp un gd cn cs L a ccd cl outer) (call (.ref f) vs) Q E s :=
  G.run p loose mean mg mb dp un gd cn cs a ccd cl outer A₀ base h₀ L m s Q E B F X N T XB TB D hk hd hu hret
theorem GivesT.conseq {w : World} {f : Addr} {d : Nat} {vs : List Value} {news : Led} {R R' : Value → Led → Prop} (G : GivesT w f d vs news R) (H : ∀ r n' h0 L h, R r n' → News h0 L h n' → ∃ n'', R' r n'' ∧ ∀ q ∈ n'', q ∈ n') : GivesT w f d vs news R' :=
  ⟨fun p loose mean mg mb dp un gd cn cs a ccd cl outer A₀ base h₀ L m s Q E B F X N T XB TB D hk hd hu hret =>
    G.run p loose mean mg mb dp un gd cn cs a ccd cl outer A₀ base h₀ L m s Q E B F X N T XB TB D hk hd hu fun r n' h' tk' h₁ hr T₁ F₁ N₁ B₁ X₁ P₁ D₁ => by
      obtain ⟨n'', hr', hs⟩ := H r n' _ _ _ hr N₁
      exact hret r n'' h' tk' h₁ hr' T₁ F₁ (fun q hq => N₁ q (hs q hq)) B₁ X₁ P₁ D₁⟩
noncomputable def AnV (nw : Led) (v : Value) : An → Prop
  | .pb i b => ∃ tp t2, v = .ref tp ∧ (tp, tupO [.int i t2, .bool b]) ∈ nw
  | .pi i j => ∃ tp t2 t3, v = .ref tp ∧ (tp, tupO [.int i t2, .int j t3]) ∈ nw
  | .at i => ∃ t, v = .int i t
  | .off => v = .none
  | .bad _ _ _ => False
def AnO (o : Obj) : Prop := o.cls = .type "tuple" ∨ ∃ s t r c, o = listOf (Value.str s t :: r).toArray c
theorem AnIn.pick {nw nw' : Led} {v : Value} {x : An} (h : AnIn nw v x) (hs : ∀ q ∈ nw, AnO q.2 → q ∈ nw') : AnIn nw' v x := by
  cases x with
  | pb i b => obtain ⟨a, tp, t, t2, c, e, m1, m2⟩ := h; exact ⟨a, tp, t, t2, c, e, hs _ m1 (.inr ⟨_, _, _, _, rfl⟩), hs _ m2 (.inl rfl)⟩
  | pi i j => obtain ⟨a, tp, t, t2, t3, c, e, m1, m2⟩ := h; exact ⟨a, tp, t, t2, t3, c, e, hs _ m1 (.inr ⟨_, _, _, _, rfl⟩), hs _ m2 (.inl rfl)⟩
  | «at» i => obtain ⟨a, t, t2, c, e, m1⟩ := h; exact ⟨a, t, t2, c, e, hs _ m1 (.inr ⟨_, _, _, _, rfl⟩)⟩
  | off => obtain ⟨a, t, c, e, m1⟩ := h; exact ⟨a, t, c, e, hs _ m1 (.inr ⟨_, _, _, _, rfl⟩)⟩
  | bad msg g n => obtain ⟨a, lst, t, t0, t1, t2, t3, c, c2, e, m1, m2⟩ := h; exact ⟨a, lst, t, t0, t1, t2, t3, c, c2, e, hs _ m1 (.inr ⟨_, _, _, _, rfl⟩), hs _ m2 (.inr ⟨_, _, _, _, rfl⟩)⟩
theorem AnIn.ref {nw : Led} {v : Value} {x : An} (h : AnIn nw v x) : ∃ a, v = .ref a := by
  cases x with
  | pb i b => obtain ⟨a, tp, t, t2, c, e, m1, m2⟩ := h; exact ⟨a, e⟩
  | pi i j => obtain ⟨a, tp, t, t2, t3, c, e, m1, m2⟩ := h; exact ⟨a, e⟩
  | «at» i => obtain ⟨a, t, t2, c, e, m1⟩ := h; exact ⟨a, e⟩
  | off => obtain ⟨a, t, c, e, m1⟩ := h; exact ⟨a, e⟩
  | bad msg g n => obtain ⟨a, lst, t, t0, t1, t2, t3, c, c2, e, m1, m2⟩ := h; exact ⟨a, e⟩
abbrev GoodV (nw : Led) (x : An) (r : Value) (n' : Led) : Prop := (∀ q ∈ nw, q ∈ n') ∧ AnV n' r x
abbrev BadV (x : An) (msg : Str) (g n : Int) : Prop := x = .bad msg g n
theorem told_an {kp n' : Led} {r : Value} {x : An} (h : ToldR kp (GoodV kp x) (BadV x) r n') : (∀ q ∈ kp, q ∈ n') ∧ AnIn n' r x := by
  rcases h with ⟨lt, v, n0, t, c, rfl, rfl, hs, hv⟩ | ⟨lt, lst, t, t0, t1, t2, t3, c, c2, msg, g, n, rfl, rfl, hb⟩
  · refine ⟨fun q hq => .tail _ (hs q hq), ?_⟩
    cases x with
    | pb i b => obtain ⟨tp, t2, rfl, m⟩ := hv; exact ⟨lt, tp, t, t2, c, rfl, .head _, .tail _ m⟩
    | pi i j => obtain ⟨tp, t2, t3, rfl, m⟩ := hv; exact ⟨lt, tp, t, t2, t3, c, rfl, .head _, .tail _ m⟩
    | «at» i => obtain ⟨t2, rfl⟩ := hv; exact ⟨lt, t, t2, c, rfl, .head _⟩
    | off => obtain rfl : v = .none := hv; exact ⟨lt, t, c, rfl, .head _⟩
    | bad msg g n => exact False.elim hv
  · obtain rfl : x = .bad msg g n := hb
    exact ⟨fun q hq => .tail _ (.tail _ hq), lt, lst, t, t0, t1, t2, t3, c, c2, rfl, .head _, .tail _ (.head _)⟩
def TabR (fix rest : Led) (x : An) (r : Value) (n' : Led) : Prop :=
  ∃ rest', n' = fix ++ rest' ∧ (∀ q ∈ rest', ∀ f ∈ fix, q.1 ≠ f.1) ∧ (∀ q ∈ rest, q ∈ rest') ∧ AnIn rest' r x
theorem told_x {w : World} {fix rest : Led} {f : Addr} {d : Nat} {x : An} {fo : Obj} {fd : FuncData} (G : GivesR w f d [] (fix ++ rest) (fix ++ rest) (GoodV (fix ++ rest) x) (BadV x)) (hm : (f, fo) ∈ fix ++ rest) (hfd : fo.data = .func fd)
    (hfix : ∀ f ∈ fix, ¬ AnO f.2) (hr : ∀ q ∈ rest, ∀ f ∈ fix, q.1 ≠ f.1) : GivesT w 722 (d + 3) [.ref f] (fix ++ rest) (TabR fix rest x) :=
  (told_ok G hm hfd).conseq fun r n' h0 L h hR N => by
    obtain ⟨hs, ha⟩ := told_an hR
    refine ⟨fix ++ n'.filter (fun q => decide (∀ f ∈ fix, q.1 ≠ f.1)), ⟨_, rfl, ?_, ?_, ?_⟩, ?_⟩
    · intro q hq f hf
      exact of_decide_eq_true (List.mem_filter.mp hq).2 f hf
    · intro q hq
      exact List.mem_filter.mpr ⟨hs q (List.mem_append_right _ hq), decide_eq_true (hr q hq)⟩
    · refine ha.pick fun q hq ho => List.mem_filter.mpr ⟨hq, decide_eq_true fun f hf => ?_⟩
      exact ne_addr N hq (hs f (List.mem_append_left _ hf)) fun e => hfix f hf (e ▸ ho)
    · intro q hq
      rcases List.mem_append.mp hq with hq | hq
      · exact hs q (List.mem_append_left _ hq)
      · exact (List.mem_filter.mp hq).1
theorem notAnO_tab {ps : Array Value} : ¬ AnO (tabObj ps) := by
  rintro (h | ⟨s, t, r, c, h⟩)
  · cases h
  · have := congrArg Obj.cls h
    cases this
theorem notAnO_refs {a : Addr} {vs : List Value} {c : Nat} : ¬ AnO (listOf (Value.ref a :: vs).toArray c) := by
  rintro (h | ⟨s, t, r, c', h⟩)
  · have h' : Value.type "list" = Value.type "tuple" := h
    simp at h'
  · have h' := congrArg Obj.data h
    simp at h'
noncomputable def hasName (o : Obj) (s : String) : Bool := match o.data with
  | .func fd => fd.scope.names.any fun y => y.1 == Str.ofString s
  | _ => false
def TabRA (T : Obj) (rest : Led) (x : An) (r : Value) (n' : Led) : Prop := ∃ rest', n' = (736, T) :: rest' ∧ (∀ q ∈ rest', q.1 ≠ 736) ∧ (∀ q ∈ rest, q ∈ rest') ∧ AnIn rest' r x
def TabRB (T : Obj) (l : Addr) (F : Obj) (rest : Led) (x : An) (r : Value) (n' : Led) : Prop :=
  ∃ rest', n' = (736, T) :: (l, F) :: rest' ∧ (∀ q ∈ rest', q.1 ≠ 736) ∧ (∀ q ∈ rest', q.1 ≠ l) ∧ (∀ q ∈ rest, q ∈ rest') ∧ AnIn rest' r x
theorem told_A {w : World} {ps : Array Value} {rest : Led} {f : Addr} {d : Nat} {x : An} {fo : Obj} {fd : FuncData} (s : String) (G : GivesR w f d [] ((736, tabObj ps) :: rest) ((736, tabObj ps) :: rest) (GoodV ((736, tabObj ps) :: rest) x) (BadV x))
    (hm : (f, fo) ∈ (736, tabObj ps) :: rest) (_hq : hasName fo s = true) (hfd : fo.data = .func fd) (hr : ∀ q ∈ rest, q.1 ≠ 736) : GivesT w 722 (d + 3) [.ref f] ((736, tabObj ps) :: rest) (TabRA (tabObj ps) rest x) :=
  (told_x (fix := [(736, tabObj ps)]) (rest := rest) G hm hfd (fun f hf => by rw [List.mem_singleton.mp hf]; exact notAnO_tab) (fun q hq f hf => by rw [List.mem_singleton.mp hf]; exact hr q hq)).conseq
    fun r n' _ _ _ hR _ => by
      obtain ⟨rest', rfl, h1, h2, h3⟩ := hR
      exact ⟨_, ⟨rest', rfl, fun q hq => h1 q hq _ (.head _), h2, h3⟩, fun q hq => hq⟩
theorem told_B {w : World} {ps : Array Value} {l a : Addr} {vs : List Value} {c : Nat} {rest : Led} {f : Addr} {d : Nat} {x : An} {fo : Obj} {fd : FuncData} (s : String)
    (G : GivesR w f d [] ((736, tabObj ps) :: (l, listOf (Value.ref a :: vs).toArray c) :: rest) ((736, tabObj ps) :: (l, listOf (Value.ref a :: vs).toArray c) :: rest) (GoodV ((736, tabObj ps) :: (l, listOf (Value.ref a :: vs).toArray c) :: rest) x) (BadV x))
    (hm : (f, fo) ∈ (736, tabObj ps) :: (l, listOf (Value.ref a :: vs).toArray c) :: rest) (_hq : hasName fo s = true) (hfd : fo.data = .func fd) (hr : ∀ q ∈ rest, q.1 ≠ 736) (hl : ∀ q ∈ rest, q.1 ≠ l) :
    GivesT w 722 (d + 3) [.ref f] ((736, tabObj ps) :: (l, listOf (Value.ref a :: vs).toArray c) :: rest) (TabRB (tabObj ps) l (listOf (Value.ref a :: vs).toArray c) rest x) :=
  (told_x (fix := [(736, tabObj ps), (l, listOf (Value.ref a :: vs).toArray c)]) (rest := rest) G hm hfd
    (List.forall_mem_cons.mpr ⟨notAnO_tab, List.forall_mem_cons.mpr ⟨notAnO_refs, fun _ h => nomatch h⟩⟩) (fun q hq => List.forall_mem_cons.mpr ⟨hr q hq, List.forall_mem_cons.mpr ⟨hl q hq, fun _ h => nomatch h⟩⟩)).conseq
    fun r n' _ _ _ hR _ => by
      obtain ⟨rest', rfl, h1, h2, h3⟩ := hR
      exact ⟨_, ⟨rest', rfl, fun q hq => h1 q hq _ (.head _), fun q hq => h1 q hq _ (.tail _ (.head _)), h2, h3⟩, fun q hq => hq⟩
theorem lamA {h₀ h : Heap} {L f c : Addr} {fo oc T T' : Obj} {rest : Led} (N : News h₀ L h ((f, fo) :: (c, oc) :: (736, T') :: rest)) (hP : ∀ q ∈ rest, q.1 ≠ 736) (l1 : ∀ q ∈ (736, T) :: rest, q.1 < c) (l2 : @LT.lt Nat _ c f) :
    News h₀ L h ((736, T') :: (f, fo) :: (c, oc) :: rest) ∧ ∀ q ∈ (f, fo) :: (c, oc) :: rest, q.1 ≠ 736 := by
  have h1 : @LT.lt Nat _ 736 c := l1 _ (.head _)
  refine ⟨fun q hq => N q (by
    simp only [List.mem_cons] at hq ⊢
    rcases hq with h | h | h | h <;> simp [h]), List.forall_mem_cons.mpr ⟨by k_ne, List.forall_mem_cons.mpr ⟨by k_ne, hP⟩⟩⟩
theorem lamB {h₀ h : Heap} {L f c l : Addr} {fo oc T T' F : Obj} {rest : Led} (N : News h₀ L h ((f, fo) :: (c, oc) :: (736, T') :: (l, F) :: rest)) (hP : ∀ q ∈ rest, q.1 ≠ 736) (hL : ∀ q ∈ rest, q.1 ≠ l) (l1 : ∀ q ∈ (736, T) :: (l, F) :: rest, q.1 < c) (l2 : @LT.lt Nat _ c f) :
    News h₀ L h ((736, T') :: (l, F) :: (f, fo) :: (c, oc) :: rest) ∧ (∀ q ∈ (f, fo) :: (c, oc) :: rest, q.1 ≠ 736) ∧ ∀ q ∈ (f, fo) :: (c, oc) :: rest, q.1 ≠ l := by
  have h1 : @LT.lt Nat _ 736 c := l1 _ (.head _)
  have h2 : @LT.lt Nat _ l c := l1 _ (.tail _ (.head _))
  refine ⟨fun q hq => N q (by
    simp only [List.mem_cons] at hq ⊢
    rcases hq with h | h | h | h | h <;> simp [h]), List.forall_mem_cons.mpr ⟨by k_ne, List.forall_mem_cons.mpr ⟨by k_ne, hP⟩⟩, List.forall_mem_cons.mpr ⟨by k_ne, List.forall_mem_cons.mpr ⟨by k_ne, hL⟩⟩⟩
def CellIn (nw : Led) (c : Addr) (v : Value) : Prop := ∃ o, (c, o) ∈ nw ∧ o.data = .cell (some v)
noncomputable abbrev lamQ : Str := (Str.ofString "_law_answers" ++ ".<locals>.") ++ "<lambda>"
def CodeIn (nw : Led) (c : Addr) : Prop := ∃ oc vs t, (c, oc) ∈ nw ∧ oc.data = .fields vs ∧ vs[1]? = some (.str lamQ t)
inductive AnsIn (nw : Led) : List Value → List An → Prop
  | nil : AnsIn nw [] []
  | cons {v : Value} {x : An} {vs : List Value} {xs : List An} : AnIn nw v x → AnsIn nw vs xs → AnsIn nw (v :: vs) (x :: xs)
theorem AnsIn.mono {nw nw' : Led} (hs : ∀ q ∈ nw, q ∈ nw') : ∀ {vs : List Value} {xs : List An}, AnsIn nw vs xs → AnsIn nw' vs xs
  | _, _, .nil => .nil
  | _, _, .cons h t => .cons (h.mono hs) (t.mono hs)
theorem AnsIn.snoc {nw : Led} {v : Value} {x : An} (h : AnIn nw v x) : ∀ {vs : List Value} {xs : List An}, AnsIn nw vs xs → AnsIn nw (vs ++ [v]) (xs ++ [x])
  | _, _, .nil => .cons h .nil
  | _, _, .cons a t => .cons a (t.snoc h)
structure AnsSt (w : World) (c1 c2 c3 c4 c5 v tb : Addr) (x n e : Int) (t t2 t3 : Tok) (cs : List Int) (p : Int) (syn : Kd → Addr) (vs : List Value) (xs : List An) (codes : List Addr) (rest : Led) : Prop where
  cv : CellIn rest c1 (.ref v)
  ct : CellIn rest c2 (.ref tb)
  cp : CellIn rest c3 (.int x t)
  cc : CellIn rest c4 (.int n t2)
  cd : CellIn rest c5 (.int e t3)
  hv : ViewIn rest v cs p
  ht : TableIn w rest tb syn
  an : AnsIn rest vs xs
  co : ∀ c ∈ codes, CodeIn rest c
theorem CellIn.mono {nw nw' : Led} {c : Addr} {v : Value} (h : CellIn nw c v) (hs : ∀ q ∈ nw, q ∈ nw') : CellIn nw' c v := let ⟨o, m, d⟩ := h; ⟨o, hs _ m, d⟩
theorem CodeIn.mono {nw nw' : Led} {c : Addr} (h : CodeIn nw c) (hs : ∀ q ∈ nw, q ∈ nw') : CodeIn nw' c := let ⟨o, vs, t, m, d⟩ := h; ⟨o, vs, t, hs _ m, d⟩
theorem AnsSt.mono {w : World} {c1 c2 c3 c4 c5 v tb : Addr} {x n e : Int} {t t2 t3 : Tok} {cs : List Int} {p : Int} {syn : Kd → Addr} {vs : List Value} {xs : List An} {codes : List Addr} {rest rest' : Led} (h : AnsSt w c1 c2 c3 c4 c5 v tb x n e t t2 t3 cs p syn vs xs codes rest) (hs : ∀ q ∈ rest, q ∈ rest') :
    AnsSt w c1 c2 c3 c4 c5 v tb x n e t t2 t3 cs p syn vs xs codes rest' :=
  ⟨h.cv.mono hs, h.ct.mono hs, h.cp.mono hs, h.cc.mono hs, h.cd.mono hs, h.hv.mono hs, h.ht.mono hs, h.an.mono hs, fun c hc => (h.co c hc).mono hs⟩
theorem AnsSt.step {w : World} {c1 c2 c3 c4 c5 v tb : Addr} {x n e : Int} {t t2 t3 : Tok} {cs : List Int} {p : Int} {syn : Kd → Addr} {vs : List Value} {xs : List An} {codes : List Addr} {rest rest' : Led} {f : Addr × Obj} {c : Addr} {oc : Obj} {us : Array Value} {tq : Tok} {r : Value} {y : An}
    (h : AnsSt w c1 c2 c3 c4 c5 v tb x n e t t2 t3 cs p syn vs xs codes rest) (hs : ∀ q ∈ f :: (c, oc) :: rest, q ∈ rest') (h1 : oc.data = .fields us) (h2 : us[1]? = some (.str lamQ tq)) (ha : AnIn rest' r y) :
    AnsSt w c1 c2 c3 c4 c5 v tb x n e t t2 t3 cs p syn (vs ++ [r]) (xs ++ [y]) (codes ++ [c]) rest' :=
  let h' := h.mono (rest' := rest') fun q hq => hs q (.tail _ (.tail _ hq))
  { h' with an := h'.an.snoc ha, co := fun z hz => (List.mem_append.mp hz).elim (h'.co z) fun q => by rw [List.mem_singleton.mp q]; exact ⟨oc, us, tq, hs _ (.tail _ (.head _)), h1, h2⟩ }
theorem AnsSt.hit {w : World} {c1 c2 c3 c4 c5 v tb : Addr} {x n e : Int} {t t2 t3 : Tok} {cs : List Int} {p : Int} {syn : Kd → Addr} {vs : List Value} {xs : List An} {codes : List Addr} {rest rest' : Led} {f : Addr × Obj} {r : Value} {y : An}
    (h : AnsSt w c1 c2 c3 c4 c5 v tb x n e t t2 t3 cs p syn vs xs codes rest) (hs : ∀ q ∈ f :: rest, q ∈ rest') (ha : AnIn rest' r y) :
    AnsSt w c1 c2 c3 c4 c5 v tb x n e t t2 t3 cs p syn (vs ++ [r]) (xs ++ [y]) codes rest' :=
  let h' := h.mono (rest' := rest') fun q hq => hs q (.tail _ hq)
  { h' with an := h'.an.snoc ha }
noncomputable def anOut (p : Int) : Out → An
  | .at i => .at (p + (i : Int))
  | .off => .off
  | .ends g i => .bad sEnds (p + (g : Int)) (p + (i : Int))
  | .unb g i => .bad sUnb (p + (g : Int)) (p + (i : Int))
theorem outR_an {p : Int} {o : Out} {r : Value} {nw : Led} (h : outR p o r) : AnV nw r (anOut p o) := by
  cases o with
  | «at» i => exact h
  | off => exact h
  | ends g i => exact False.elim h
  | unb g i => exact False.elim h
theorem outE_an {p : Int} {o : Out} {msg : Str} {g n : Int} (h : outE p o msg g n) : anOut p o = .bad msg g n := by
  cases o with
  | «at» i => exact False.elim h
  | off => exact False.elim h
  | ends g' i => obtain ⟨rfl, rfl, rfl⟩ := h; rfl
  | unb g' i => obtain ⟨rfl, rfl, rfl⟩ := h; rfl
noncomputable def ansL (cs : List Int) (p : Int) (i : Nat) (n e : Int) : List An :=
  [.pb (p + ((fwdW cs i n).1 : Int)) (fwdW cs i n).2, .pi (p + ((linesT cs i n).1 : Int)) (linesT cs i n).2, .at (p + (lineS cs i : Int)), .at (p + (lineE cs i : Int)), anOut p (scG cs i n e)]
theorem startN {h₀ h : Heap} {L : Addr} {a1 a2 a3 a4 a5 t : Addr × Obj} {news : Led} (N : News h₀ L h (a1 :: a2 :: a3 :: a4 :: a5 :: t :: news)) : News h₀ L h (t :: a1 :: a2 :: a3 :: a4 :: a5 :: news) :=
  fun q hq => N q (by
    simp only [List.mem_cons] at hq ⊢
    rcases hq with h | h | h | h | h | h | h <;> simp [h])
theorem swapN {h₀ h : Heap} {L : Addr} {a b : Addr × Obj} {news : Led} (N : News h₀ L h (a :: b :: news)) : News h₀ L h (b :: a :: news) :=
  fun q hq => N q (by
    simp only [List.mem_cons] at hq ⊢
    rcases hq with h | h | h <;> simp [h])
theorem appN {h₀ h : Heap} {L l : Addr} {a : Addr × Obj} {vs : List Value} {x : Value} {c : Nat} {news : Led} (N : News h₀ L h (a :: (l, listOf (vs.toArray.push x) c) :: news)) : News h₀ L h (a :: (l, listOf (vs ++ [x]).toArray c) :: news) := by
  rw [List.push_toArray] at N
  exact N
section
variable {M : Model} {A : Around} {E : Value → Shared → Prop} {s : Shared} {h₀ : Heap} {L a c : Addr} {cn : Str} {ccd : Value} {ns : List (Str × NameKind)} {ig ic : Bool} {mo : List (Str × Const)} {cl : List (Str × Addr)} {x : String} {pos : Pos} {v : Value} {o : Obj} {Q : Value → Shared → Prop} {news : Led}
theorem nameFree (N : News h₀ L s.heap news) (hl : ns.lookup (Str.ofString x) = some .free) (hc : cl.lookup (Str.ofString x) = some c) (hm : (c, o) ∈ news) (hd : o.data = .cell (some v)) (h1 : x ≠ "__debug__") (h2 : x ≠ "__classdict__") (h : Q v s) :
    wpAny M A (eval (.Name (Str.ofString x) pos) (envX cn { kind := .function, names := ns, isGenerator := ig, isCoroutine := ic, more := mo } L a ccd cl)) Q E s :=
  nameX_F N hc hm hd h rfl hl (ofs_beq h1) (ofs_beq h2)
end
noncomputable abbrev tab5 (c1 c2 c3 c4 c5 : Addr) : Array Value := #[] ++ #[rawInt 641, rawInt 23, .ref c1] ++ #[rawInt 642, rawInt 27, .ref c2] ++ #[rawInt 643, rawInt 27, .ref c3] ++ #[rawInt 644, rawInt 27, .ref c4] ++ #[rawInt 645, rawInt 30, .ref c5]
def TabFull (nw : Led) : Prop := ∃ c1 c2 c3 c4 c5, (736, tabObj (tab5 c1 c2 c3 c4 c5)) ∈ nw ∧ ∀ c ∈ [c1, c2, c3, c4, c5], CodeIn nw c
def AnsR (news : Led) (xs : List An) (r : Value) (n' : Led) : Prop := ∃ l vs c, r = .ref l ∧ (l, listOf vs.toArray c) ∈ n' ∧ AnsIn n' vs xs ∧ (∀ q ∈ news, q ∈ n') ∧ TabFull n'
theorem GivesT.useA {w : World} {f : Addr} {d : Nat} {vs : List Value} {rest : Led} {x : An} {T' : Obj}
    {p' : Program} {loose : List Str} {mean : ExcName → Option Value} {mg mb : Str → Option Value}
    {dp un : Nat} {gd : Option (List Code)} {cn : Str} {cs' : Scope} {a' : Addr} {ccd : Value} {cl : List (Str × Addr)} {outer : List Env}
    {A₀ : Around} {base h₀ : Heap} {L : Addr} {m : Str → Option Value} {hp : Heap} {gs : Array GenState} {dr : Drawn} {tk : Nat} {os : OsState} {Q E : Value → Shared → Prop}
    (G : GivesT w f d vs ((736, T') :: rest) (TabRA T' rest x))
    (B : Below A₀ base outer h₀) (F : Fr h₀ L hp m) (X : (Mine.T.heap_1 w.params).In h₀) (N : News h₀ L hp ((736, T') :: rest)) (T : Top p' loose mean mg mb h₀) (XB : (Mine.T.heap_1 w.params).In base) (TB : Top p' loose mean mg mb base) (D : KtsDicts (outer.filterMap (·.frame)) h₀) (hk : cs'.kind = .function)
    (hd : dp + d < recursionLimit) (hu : un + 8 * d < cLine)
    (hret : ∀ ra rest' h' tk' h₁, AnIn rest' (.ref ra) x → (∀ q ∈ rest', q.1 ≠ 736) → (∀ q ∈ rest, q ∈ rest') → KtsTurn (outer.filterMap (·.frame)) h₀ h₁ → Fr h₁ L h' m → News h₁ L h' ((736, T') :: rest') → Below A₀ base outer h₁ → (Mine.T.heap_1 w.params).In h₁ → Top p' loose mean mg mb h₁ → KtsDicts (outer.filterMap (·.frame)) h₁ → Q (.ref ra) ⟨h', gs, dr, tk', os⟩) :
    wpAny (model PR w) (ktrTop dp un gd cn cs' L a' ccd cl outer) (call (.ref f) vs) Q E ⟨hp, gs, dr, tk, os⟩ :=
  G.run p' loose mean mg mb dp un gd cn cs' a' ccd cl outer A₀ base h₀ L m ⟨hp, gs, dr, tk, os⟩ Q E B F X N T XB TB D hk hd hu fun r n' h' tk' h₁ hr T₁ F₁ N₁ B₁ X₁ P₁ D₁ => by
    obtain ⟨rest', rfl, hP, hs, ha⟩ := hr
    obtain ⟨ra, rfl⟩ := ha.ref
    exact hret ra rest' h' tk' h₁ ha hP hs T₁ F₁ N₁ B₁ X₁ P₁ D₁
theorem GivesT.useB {w : World} {f : Addr} {d : Nat} {vs : List Value} {rest : Led} {x : An} {T' : Obj} {l : Addr} {Fo : Obj}
    {p' : Program} {loose : List Str} {mean : ExcName → Option Value} {mg mb : Str → Option Value}
    {dp un : Nat} {gd : Option (List Code)} {cn : Str} {cs' : Scope} {a' : Addr} {ccd : Value} {cl : List (Str × Addr)} {outer : List Env}
    {A₀ : Around} {base h₀ : Heap} {L : Addr} {m : Str → Option Value} {hp : Heap} {gs : Array GenState} {dr : Drawn} {tk : Nat} {os : OsState} {Q E : Value → Shared → Prop}
    (G : GivesT w f d vs ((736, T') :: (l, Fo) :: rest) (TabRB T' l Fo rest x))
    (B : Below A₀ base outer h₀) (F : Fr h₀ L hp m) (X : (Mine.T.heap_1 w.params).In h₀) (N : News h₀ L hp ((736, T') :: (l, Fo) :: rest)) (T : Top p' loose mean mg mb h₀) (XB : (Mine.T.heap_1 w.params).In base) (TB : Top p' loose mean mg mb base) (D : KtsDicts (outer.filterMap (·.frame)) h₀) (hk : cs'.kind = .function)
    (hd : dp + d < recursionLimit) (hu : un + 8 * d < cLine)
    (hret : ∀ ra rest' h' tk' h₁, AnIn rest' (.ref ra) x → (∀ q ∈ rest', q.1 ≠ 736) → (∀ q ∈ rest', q.1 ≠ l) → (∀ q ∈ rest, q ∈ rest') → KtsTurn (outer.filterMap (·.frame)) h₀ h₁ → Fr h₁ L h' m → News h₁ L h' ((736, T') :: (l, Fo) :: rest') → Below A₀ base outer h₁ → (Mine.T.heap_1 w.params).In h₁ → Top p' loose mean mg mb h₁ → KtsDicts (outer.filterMap (·.frame)) h₁ → Q (.ref ra) ⟨h', gs, dr, tk', os⟩) :
    wpAny (model PR w) (ktrTop dp un gd cn cs' L a' ccd cl outer) (call (.ref f) vs) Q E ⟨hp, gs, dr, tk, os⟩ :=
  G.run p' loose mean mg mb dp un gd cn cs' a' ccd cl outer A₀ base h₀ L m ⟨hp, gs, dr, tk, os⟩ Q E B F X N T XB TB D hk hd hu fun r n' h' tk' h₁ hr T₁ F₁ N₁ B₁ X₁ P₁ D₁ => by
    obtain ⟨rest', rfl, hP, hL, hs, ha⟩ := hr
    obtain ⟨ra, rfl⟩ := ha.ref
    exact hret ra rest' h' tk' h₁ ha hP hL hs T₁ F₁ N₁ B₁ X₁ P₁ D₁
def TabRA2 (rest : Led) (x : An) (r : Value) (n' : Led) : Prop := (∀ q ∈ rest, q ∈ n') ∧ AnIn n' r x
def TabRB2 (l : Addr) (F : Obj) (rest : Led) (x : An) (r : Value) (n' : Led) : Prop := ∃ rest', n' = (l, F) :: rest' ∧ (∀ q ∈ rest', q.1 ≠ l) ∧ (∀ q ∈ rest, q ∈ rest') ∧ AnIn rest' r x
theorem GivesT.useA2 {w : World} {f : Addr} {d : Nat} {vs : List Value} {rest : Led} {x : An} 
    {p' : Program} {loose : List Str} {mean : ExcName → Option Value} {mg mb : Str → Option Value}
    {dp un : Nat} {gd : Option (List Code)} {cn : Str} {cs' : Scope} {a' : Addr} {ccd : Value} {cl : List (Str × Addr)} {outer : List Env}
    {A₀ : Around} {base h₀ : Heap} {L : Addr} {m : Str → Option Value} {hp : Heap} {gs : Array GenState} {dr : Drawn} {tk : Nat} {os : OsState} {Q E : Value → Shared → Prop}
    (G : GivesT w f d vs rest (TabRA2 rest x))
    (B : Below A₀ base outer h₀) (F : Fr h₀ L hp m) (X : (Mine.T.heap_1 w.params).In h₀) (N : News h₀ L hp rest) (T : Top p' loose mean mg mb h₀) (XB : (Mine.T.heap_1 w.params).In base) (TB : Top p' loose mean mg mb base) (D : KtsDicts (outer.filterMap (·.frame)) h₀) (hk : cs'.kind = .function)
    (hd : dp + d < recursionLimit) (hu : un + 8 * d < cLine)
    (hret : ∀ ra rest' h' tk' h₁, AnIn rest' (.ref ra) x → (∀ q ∈ rest, q ∈ rest') → KtsTurn (outer.filterMap (·.frame)) h₀ h₁ → Fr h₁ L h' m → News h₁ L h' rest' → Below A₀ base outer h₁ → (Mine.T.heap_1 w.params).In h₁ → Top p' loose mean mg mb h₁ → KtsDicts (outer.filterMap (·.frame)) h₁ → Q (.ref ra) ⟨h', gs, dr, tk', os⟩) :
    wpAny (model PR w) (ktrTop dp un gd cn cs' L a' ccd cl outer) (call (.ref f) vs) Q E ⟨hp, gs, dr, tk, os⟩ :=
  G.run p' loose mean mg mb dp un gd cn cs' a' ccd cl outer A₀ base h₀ L m ⟨hp, gs, dr, tk, os⟩ Q E B F X N T XB TB D hk hd hu fun r n' h' tk' h₁ hr T₁ F₁ N₁ B₁ X₁ P₁ D₁ => by
    obtain ⟨hs, ha⟩ := hr
    obtain ⟨ra, rfl⟩ := ha.ref
    exact hret ra n' h' tk' h₁ ha hs T₁ F₁ N₁ B₁ X₁ P₁ D₁
theorem GivesT.useB2 {w : World} {f : Addr} {d : Nat} {vs : List Value} {rest : Led} {x : An} {l : Addr} {Fo : Obj}
    {p' : Program} {loose : List Str} {mean : ExcName → Option Value} {mg mb : Str → Option Value}
    {dp un : Nat} {gd : Option (List Code)} {cn : Str} {cs' : Scope} {a' : Addr} {ccd : Value} {cl : List (Str × Addr)} {outer : List Env}
    {A₀ : Around} {base h₀ : Heap} {L : Addr} {m : Str → Option Value} {hp : Heap} {gs : Array GenState} {dr : Drawn} {tk : Nat} {os : OsState} {Q E : Value → Shared → Prop}
    (G : GivesT w f d vs ((l, Fo) :: rest) (TabRB2 l Fo rest x))
    (B : Below A₀ base outer h₀) (F : Fr h₀ L hp m) (X : (Mine.T.heap_1 w.params).In h₀) (N : News h₀ L hp ((l, Fo) :: rest)) (T : Top p' loose mean mg mb h₀) (XB : (Mine.T.heap_1 w.params).In base) (TB : Top p' loose mean mg mb base) (D : KtsDicts (outer.filterMap (·.frame)) h₀) (hk : cs'.kind = .function)
    (hd : dp + d < recursionLimit) (hu : un + 8 * d < cLine)
    (hret : ∀ ra rest' h' tk' h₁, AnIn rest' (.ref ra) x → (∀ q ∈ rest', q.1 ≠ l) → (∀ q ∈ rest, q ∈ rest') → KtsTurn (outer.filterMap (·.frame)) h₀ h₁ → Fr h₁ L h' m → News h₁ L h' ((l, Fo) :: rest') → Below A₀ base outer h₁ → (Mine.T.heap_1 w.params).In h₁ → Top p' loose mean mg mb h₁ → KtsDicts (outer.filterMap (·.frame)) h₁ → Q (.ref ra) ⟨h', gs, dr, tk', os⟩) :
    wpAny (model PR w) (ktrTop dp un gd cn cs' L a' ccd cl outer) (call (.ref f) vs) Q E ⟨hp, gs, dr, tk, os⟩ :=
  G.run p' loose mean mg mb dp un gd cn cs' a' ccd cl outer A₀ base h₀ L m ⟨hp, gs, dr, tk, os⟩ Q E B F X N T XB TB D hk hd hu fun r n' h' tk' h₁ hr T₁ F₁ N₁ B₁ X₁ P₁ D₁ => by
    obtain ⟨rest', rfl, hL, hs, ha⟩ := hr
    obtain ⟨ra, rfl⟩ := ha.ref
    exact hret ra rest' h' tk' h₁ ha hL hs T₁ F₁ N₁ B₁ X₁ P₁ D₁
theorem AnsSt.open {w : World} {c1 c2 c3 c4 c5 v tb : Addr} {x n e : Int} {t t2 t3 : Tok} {cs : List Int} {p : Int} {syn : Kd → Addr} {vs : List Value} {xs : List An} {codes : List Addr} {rest : Led} {P : Prop} (h : AnsSt w c1 c2 c3 c4 c5 v tb x n e t t2 t3 cs p syn vs xs codes rest)
    (k : ∀ q1 q2 q3 q4 q5 : Obj, (c1, q1) ∈ rest → q1.data = .cell (some (.ref v)) → (c2, q2) ∈ rest → q2.data = .cell (some (.ref tb)) → (c3, q3) ∈ rest → q3.data = .cell (some (.int x t)) → (c4, q4) ∈ rest → q4.data = .cell (some (.int n t2)) → (c5, q5) ∈ rest → q5.data = .cell (some (.int e t3)) → ViewIn rest v cs p → TableIn w rest tb syn → (∀ c ∈ codes, CodeIn rest c) → P) : P := by
  obtain ⟨⟨q1, m1, d1⟩, ⟨q2, m2, d2⟩, ⟨q3, m3, d3⟩, ⟨q4, m4, d4⟩, ⟨q5, m5, d5⟩, hv, ht, _, hc⟩ := h
  exact k q1 q2 q3 q4 q5 m1 d1 m2 d2 m3 d3 m4 d4 m5 d5 hv ht hc
theorem CodeIn.open5 {rest : Led} {c1 c2 c3 c4 c5 : Addr} {P : Prop} (h : ∀ c ∈ [c1, c2, c3, c4, c5], CodeIn rest c)
    (k : ∀ (o1 : Obj) (v1 : Array Value) (e1 : Tok) (o2 : Obj) (v2 : Array Value) (e2 : Tok) (o3 : Obj) (v3 : Array Value) (e3 : Tok) (o4 : Obj) (v4 : Array Value) (e4 : Tok) (o5 : Obj) (v5 : Array Value) (e5 : Tok),
      (c1, o1) ∈ rest → o1.data = .fields v1 → v1[1]? = some (.str lamQ e1) → (c2, o2) ∈ rest → o2.data = .fields v2 → v2[1]? = some (.str lamQ e2) → (c3, o3) ∈ rest → o3.data = .fields v3 → v3[1]? = some (.str lamQ e3) → (c4, o4) ∈ rest → o4.data = .fields v4 → v4[1]? = some (.str lamQ e4) → (c5, o5) ∈ rest → o5.data = .fields v5 → v5[1]? = some (.str lamQ e5) → P) : P := by
  obtain ⟨o1, v1, e1, cm1, cd1, ce1⟩ := h c1 (.head _)
  obtain ⟨o2, v2, e2, cm2, cd2, ce2⟩ := h c2 (.tail _ (.head _))
  obtain ⟨o3, v3, e3, cm3, cd3, ce3⟩ := h c3 (.tail _ (.tail _ (.head _)))
  obtain ⟨o4, v4, e4, cm4, cd4, ce4⟩ := h c4 (.tail _ (.tail _ (.tail _ (.head _))))
  obtain ⟨o5, v5, e5, cm5, cd5, ce5⟩ := h c5 (.tail _ (.tail _ (.tail _ (.tail _ (.head _)))))
  exact k o1 v1 e1 o2 v2 e2 o3 v3 e3 o4 v4 e4 o5 v5 e5 cm1 cd1 ce1 cm2 cd2 ce2 cm3 cd3 ce3 cm4 cd4 ce4 cm5 cd5 ce5

theorem u73 : True := by
  k_with_none
  k_with "m_om" => (with_reducible first | decide | assumption | ((show @LT.lt Nat _ _ _); first | exact rm_a ‹_› rfl | exact rm_b ‹_› rfl | exact rm_c ‹_› | exact rm_d ‹_› | exact tn_a ‹_› | exact tn_b ‹_› | exact tn_c ‹_› | exact tn_d ‹_› | exact rm_e ‹_› rfl | exact tp_d ‹_› | exact tp_e ‹_› ‹_› | exact tp_h ‹_› | exact tp_v ‹_› | exact tr_a ‹_›) | ((show @LE.le Nat _ _ _); first | exact tn_h ‹_› | exact tp_c ‹_› | exact tp_k ‹_› ‹_› | exact tp_l ‹_› ‹_› ‹_› | exact tp_x ‹_› ‹_› | exact Nat.le_trans ‹_› ‹_›) | ((show @LT.lt Int _ _ _); first | exact tn_m ‹_› | exact tn_n ‹_› | exact tp_p ‹_› ‹_› ‹_› ‹_› | exact tp_q ‹_› ‹_› ‹_› | exact Int.lt_of_toNat_lt ‹_› | exact Int.lt_of_lt_of_le ‹_› ‹_› | exact Int.sub_left_lt_of_lt_add ‹_› | exact tr_b ‹_›) | ((show @LE.le Int _ _ _); first | exact tn_i ‹_› | exact tn_j ‹_› | exact tn_k ‹_› | exact tn_l ‹_› | exact tn_o ‹_› | exact tp_i ‹_› ‹_› | exact tp_a ‹_› ‹_› | exact tp_a1 ‹_› ‹_› | exact tp_b ‹_› | exact tp_r ‹_› ‹_› | exact tp_s ‹_› | exact Int.le_of_lt (Int.not_le.mp ‹_›) | exact Int.sub_nonneg_of_le ‹_› | exact Int.sub_nonneg_of_le (tn_i ‹_›) | exact Int.le_add_of_nonneg_right (Int.natCast_nonneg _)) | ((show @Eq Nat _ _); first | exact tn_s ‹_› | exact tn_t ‹_› | exact (tn_s ‹_›).symm | exact tp_g ‹_› | exact tn_s (Int.not_le.mp ‹_›) | exact tp_u ‹_› | exact tp_j) | ((show @Eq Int _ _); first | exact tn_e ‹_› | exact tn_f ‹_› | exact tn_g ‹_› | exact tp_m ‹_› | exact tp_n ‹_› | exact tp_o ‹_› ‹_› | exact tp_w ‹_› ‹_› | exact tp_y) | exact tp_f ‹_› ‹_› | exact tp_f ‹_› | exact tp_f (Int.not_lt.mp ‹_›) | exact tp_t ‹_› ‹_› | exact Nat.ne_of_gt ‹_› | exact Nat.ne_of_lt ‹_› | exact Nat.ne_of_gt (Nat.lt_trans ‹_› ‹_›))
  k_with "m_sd1" => ((case k1 | k2 | k3 | k4 | k5 => assumption))
  k_with "m_sd2" => ((case kK => first | exact rfl | assumption); (case kd => first | (dsimp only [ktrTop, Around.deeper]; omega) | ktr_room); (case ku => first | (dsimp only [ktrTop, Around.deeper]; omega) | ktr_units))
  k_with "m_steps" => (repeat' (first | ((first | (k_unfold) | fail); (try dsimp only)) | (first | (k_extra "m_ret") | fail) | (first | (walk1) | fail) | (dsimp only; (first | (walk1) | fail)) | fail "no step"))
  k_with "m_ret" => ((with_reducible refine' hret _ _ _ _ ?_ ?e2 ?e3); (case e2 => k_asm); (case e3 => k_asm); (try k_extra "m_val"))
  k_with "m_call" => k_dflt ((first | (refine' GivesU.useM ?G ?k1 ?k2 ?k3 ?k4 ?k5 ?kK ?kd ?ku ?_; k_extra "m_sd1"; (case G => k_extra "m_conU"); k_extra "m_sd2"; intro r9 news9 h9 tk9 hR9 F9 N9; (try k_sweep); k_extra "m_openU" <;> ((try dsimp only); (try k_fold))) | fail))
  k_with "m_call" => k_dflt ((first | (refine' Gives.useM ?G ?k1 ?k2 ?k3 ?k4 ?k5 ?kK ?kd ?ku ?_; k_extra "m_sd1"; (case G => k_extra "m_con"); k_extra "m_sd2"; intro r9 h9 tk9 hR9 F9 N9; (try k_sweep); (k_extra "m_open"); ((try dsimp only); (try k_fold))) | fail))
  k_with "m_ne" => ((with_reducible refine ofs_ne ?_); simp only [ne_eq, String.reduceEq, not_false_eq_true]; done)
  k_with "m_kind" => (first | kernel_rfl! | k_dflt (exact rfl) | repeat (first | with_reducible exact kind_here | with_reducible refine Eq.trans (kind_next (by k_extra "m_ne")) ?_ | fail "m_kind"))
  k_with "m_sub" => (intro q9 h9; repeat' (first | exact h9 | refine List.mem_append_left _ ?_ | refine List.mem_cons_of_mem _ ?_))
  k_with "m_view" => (first | assumption | exact ViewIn.mono (by assumption) (by k_extra "m_sub"))
  k_with "m_con" => ((with_reducible show Gives _ 77 _ _ _ _); exact line_start_ok (by k_extra "m_view") (by omega) (by omega))
  k_with "m_con" => ((with_reducible show Gives _ 84 _ _ _ _); exact line_end_ok (by k_extra "m_view") (by omega) (by omega))
  k_with "m_tab" => (first | assumption | exact TableIn.mono (by assumption) (by k_extra "m_sub"))
  k_with "m_conU" => ((with_reducible show GivesU _ 708 _ _ _ _); exact forward_word_ok (by k_extra "m_view") (by k_extra "m_tab") (by assumption) (by omega) (by omega))
  k_with "m_conU" => ((with_reducible show GivesU _ 98 _ _ _ _); exact lines_target_ok (by k_extra "m_view") (by omega) (by omega))
  k_with "m_open" => (rcases hR9 with ⟨i9, t9, rfl⟩)
  k_with "m_leave" => k_dflt (first | (refine' leave_pass ?hK FG9 rfl R9 U9 ?_; (case hK => assumption); intro h8 R8 U8; k_extra "m_esc") | fail)
  k_with "m_call" => k_dflt (first | (refine' GivesR.useM ?G ?k1 ?k2 ?k3 ?k4 ?k5 ?kK ?kd ?ku ?_ ?_; k_extra "m_sd1"; (case G => k_extra "m_conR"); k_extra "m_sd2"; rotate_left; (intro e9 dx9 nw9 G9 h9 tk9 msg9 g9 n9 hE9 hS9 hk9 FG9 R9 U9; k_extra "m_openE"); rotate_left; (intro r9 news9 h9 tk9 hR9 F9 N9; (try k_sweep); k_extra "m_openU" <;> ((try dsimp only); (try k_fold)))) | fail)
  k_with "m_openE" => skip
  k_with "m_conR" => ((with_reducible show GivesR _ 670 _ _ _ _ _ _); exact scan_lists_ok (by k_extra "m_view") (by k_extra "m_tab") (by assumption) (by omega) (by omega))
  k_with "m_cw" => ((with_reducible show wpAny _ _ (callWith _ _ _ (backTo _ (starEach (_ :: _) _)) []) _ _ _); k_dflt (refine' callWith_K ?zX ?zk ?_; (case zX => assumption); (case zk => k_is)))
  k_with "m_name" => (with_reducible refine' nameFree ?k1 ?k2 ?k3 ?k4 ?k5 ?k6 ?k7 ?_; (case k2 => k_extra "m_kind"); (case k3 => k_extra "m_kind"); (case k1 => assumption); (case k4 => repeat (first | assumption | refine List.mem_cons_of_mem _ ?_)); (case k5 => assumption); (case k6 => simp only [ne_eq, String.reduceEq, not_false_eq_true]); (case k7 => simp only [ne_eq, String.reduceEq, not_false_eq_true]))
  trivial
theorem startHP {a1 a2 a3 a4 a5 : Addr} {o1 o2 o3 o4 o5 : Obj} {news : Led} (hP : ∀ q ∈ news, q.1 ≠ 736) (h1 : a1 ≠ 736) (h2 : a2 ≠ 736) (h3 : a3 ≠ 736) (h4 : a4 ≠ 736) (h5 : a5 ≠ 736) :
    ∀ q ∈ (a1, o1) :: (a2, o2) :: (a3, o3) :: (a4, o4) :: (a5, o5) :: news, q.1 ≠ 736 :=
  List.forall_mem_cons.mpr ⟨h1, List.forall_mem_cons.mpr ⟨h2, List.forall_mem_cons.mpr ⟨h3, List.forall_mem_cons.mpr ⟨h4, List.forall_mem_cons.mpr ⟨h5, hP⟩⟩⟩⟩⟩
theorem startSt {w : World} {h₀ h : Heap} {L c1 c2 c3 c4 c5 v tb : Addr} {x n e : Int} {t t2 t3 : Tok} {cs : List Int} {p : Int} {syn : Kd → Addr} {news : Led} {T o1 o2 o3 o4 o5 : Obj} (N : News h₀ L h ((c5, o1) :: (c4, o2) :: (c3, o3) :: (c2, o4) :: (c1, o5) :: (736, T) :: news))
    (hP : ∀ q ∈ (c5, o1) :: (c4, o2) :: (c3, o3) :: (c2, o4) :: (c1, o5) :: news, q.1 ≠ 736) (hv : ViewIn news v cs p) (ht : TableIn w news tb syn)
    (d1 : o5.data = .cell (some (.ref v))) (d2 : o4.data = .cell (some (.ref tb))) (d3 : o3.data = .cell (some (.int x t))) (d4 : o2.data = .cell (some (.int n t2))) (d5 : o1.data = .cell (some (.int e t3))) :
    ∃ rest, News h₀ L h ((736, T) :: rest) ∧ (∀ q ∈ rest, q.1 ≠ 736) ∧ AnsSt w c1 c2 c3 c4 c5 v tb x n e t t2 t3 cs p syn [] [] [] rest ∧ ∀ q ∈ news, q ∈ rest := by
  have sub : ∀ q ∈ news, q ∈ (c5, o1) :: (c4, o2) :: (c3, o3) :: (c2, o4) :: (c1, o5) :: news := fun q hq => .tail _ (.tail _ (.tail _ (.tail _ (.tail _ hq))))
  exact ⟨_, startN N, hP, ⟨⟨_, .tail _ (.tail _ (.tail _ (.tail _ (.head _)))), d1⟩, ⟨_, .tail _ (.tail _ (.tail _ (.head _))), d2⟩, ⟨_, .tail _ (.tail _ (.head _)), d3⟩, ⟨_, .tail _ (.head _), d4⟩, ⟨_, .head _, d5⟩, hv.mono sub, ht.mono sub, .nil, fun _ h => nomatch h⟩, sub⟩
theorem trip0 : TriplesOk (#[] : Array Value).toList := True.intro
theorem trip_app {l : List Value} {a b : Int} {c : Value} (h : TriplesOk l) : TriplesOk (l ++ [rawInt a, rawInt b, c]) := by
  fun_induction TriplesOk l with
  | case1 => exact True.intro
  | case2 _ _ _ _ _ _ ih => exact ih h
  | case3 => exact h.elim
theorem trip_snoc {xs : Array Value} {a b : Int} {c : Value} (h : TriplesOk xs.toList) : TriplesOk (xs ++ #[rawInt a, rawInt b, c]).toList := by
  rw [Array.toList_append]
  exact trip_app h
set_option maxHeartbeats 4000000 in
theorem answers_first {w : World} {news : Led} {v tb : Addr} {cs : List Int} {p x n e : Int} {syn : Kd → Addr} {t t2 t3 : Tok} (hv : ViewIn news v cs p) (ht : TableIn w news tb syn) (hg : Sgns cs) (h0 : p ≤ x) (h1 : x ≤ p + cs.length) (hP : ∀ q ∈ news, q.1 ≠ 736) :
    GivesC w 741 24 [.ref v, .ref tb, .int x t, .int n t2, .int e t3] ((736, tabObj #[]) :: news) (AnsR news (ansL cs p (x - p).toNat n e)) := (by exact qz : Qz _ (by
  k_with "m_lam0" => (first | (k_dflt (refine' kla_eval ?d0 ?_; (case d0 => exact rfl); refine' kla_nest ?zF ?zN ?zT ?zC ?zcd (UpdF.head ?zU) ?zt ?zn ?zcl ?_; (case zF => assumption); (case zC => kn_code); (case zN => assumption); (case zT => assumption); (case zcd => exact rfl); (case zU => first | exact hP9 | exact List.forall_mem_cons.mpr ⟨hl736, hP9⟩); (case zt => with_reducible repeat (first | exact trip0 | refine trip_snoc ?_)); (case zn => kn_among); (case zcl => exact rfl); intro f9 c9 oc9 vs9 tt9 ct9 h9 tk9 F9 N9 d19 d29 l19 l29); k_dflt (first | ((have hz9 := lamA N9 hP9 l19 l29); (have lN9 := hz9.1); (have hr9 := hz9.2); clear hz9) | ((have hz9 := lamB N9 hP9 hL9 l19 l29); (have lN9 := hz9.1); (have hr9 := hz9.2.1); (have hl9 := hz9.2.2); clear hz9)); clear N9; (try dsimp only)) | fail)
  k_with "m_call" => ((with_reducible show wpAny _ _ (call (Value.ref 722) _) _ _ _); k_dflt (first | (refine' GivesT.useA (d := 19) ?jG ?j1 ?j2 ?j3 ?j4 ?j5 ?jXB ?jTB ?jDD ?jK ?jd ?ju ?_; (case j1 => assumption); (case j2 => assumption); (case j3 => assumption); (case j4 => assumption); (case j5 => assumption); (case jXB => exact XB); (case jTB => exact TB); (case jDD => assumption); (case jK => exact rfl); (case jd => first | (dsimp only [ktrTop, Around.deeper]; omega) | ktr_room); (case ju => first | (dsimp only [ktrTop, Around.deeper]; omega) | ktr_units); (case jG => k_extra "m_conT"); intro ra9 rest9 h9 tk9 g9 han9 hP9 hsub9 T9 F9 N9 B9 X9 P9 D9; (have hst9 := AnsSt.step hst9 hsub9 d19 d29 han9); (have hs9 : ∀ q ∈ news, q ∈ rest9 := fun q hq => hsub9 q (.tail _ (.tail _ (hs9 q hq)))); (have TT9 := KtsTurn.trans TT9 T9); (refine' AnsSt.open hst9 ?_); (intro q1 q2 q3 q4 q5 qm1 qd1 qm2 qd2 qm3 qd3 qm4 qd4 qm5 qd5 hv9 ht9 hco9); (try dsimp only); (try k_fold)) | fail))
  k_with "m_call" => ((with_reducible show wpAny _ _ (call (Value.ref 722) _) _ _ _); k_dflt (first | (refine' GivesT.useB (d := 19) ?jG ?j1 ?j2 ?j3 ?j4 ?j5 ?jXB ?jTB ?jDD ?jK ?jd ?ju ?_; (case j1 => assumption); (case j2 => assumption); (case j3 => assumption); (case j4 => assumption); (case j5 => assumption); (case jXB => exact XB); (case jTB => exact TB); (case jDD => assumption); (case jK => exact rfl); (case jd => first | (dsimp only [ktrTop, Around.deeper]; omega) | ktr_room); (case ju => first | (dsimp only [ktrTop, Around.deeper]; omega) | ktr_units); (case jG => k_extra "m_conT"); intro ra9 rest9 h9 tk9 g9 han9 hP9 hL9 hsub9 T9 F9 N9 B9 X9 P9 D9; (have hst9 := AnsSt.step hst9 hsub9 d19 d29 han9); (have hs9 : ∀ q ∈ news, q ∈ rest9 := fun q hq => hsub9 q (.tail _ (.tail _ (hs9 q hq)))); (have TT9 := KtsTurn.trans TT9 T9); (refine' AnsSt.open hst9 ?_); (intro q1 q2 q3 q4 q5 qm1 qd1 qm2 qd2 qm3 qd3 qm4 qd4 qm5 qd5 hv9 ht9 hco9); (try dsimp only); (try k_fold)) | fail))
  k_with "m_lam" => (
    (first | (constructor) | fail)
    intro pF loF meF mgF mbF dp un gd cnF csF aF cdF clF outer A₀ base h₀ LF mF sF QF EF B F X N T hk hd hu hret hesc
    (first | (refine wpAny_call ?_) | fail)
    k_dflt (first | (refine' kla_code (binds := []) ?jl1 ?jl2 ?jl3 ?jl4 ?jl5 ?jlA ?jlF ?jlK ?jl6 ?jl7 ?jl8 ?jl9 ?jlB ?_ ?jc2 ?jc3 ?jc4 ?jc5; (case jlA => (first | (exact rfl) | fail)); (case jlF => (first | (exact rfl) | fail)); (case jlK => (first | (exact hk) | fail)); (case jl1 => (first | (exact B) | fail)); (case jl2 => (first | (exact F) | fail)); (case jl3 => (first | (exact X) | fail)); (case jl4 => (first | (exact N) | fail)); (case jl5 => (first | (exact T) | fail)); (case jl6 => (first | (k_mem) | fail)); (case jl7 => (first | (exact codeRec_news N (by k_mem) (by assumption) (by assumption)) | fail)); (case jl8 => (first | (ktr_room) | fail)); (case jl9 => (first | (exact rfl) | fail)); (case jc5 => (first | (decide) | fail)); (case jlB => (first | (exact locs rfl) | fail)); (case jc2 => (first | (exact rfl) | fail)); (case jc3 => (first | (exact rfl) | fail)); (case jc4 => (first | (exact rfl) | fail)); k_whole; intro g' L' h' FG' F' N' B' X' T'; (try dsimp only); (try k_fold)) | fail)
    k_extra "m_steps")
  k_with "m_conT" => (first | (refine' told_A (d := 16) (x := .pb (p + ((fwdW cs (x - p).toNat n).1 : Int)) (fwdW cs (x - p).toNat n).2) "forward_word" ?qzG ?qzm ?qzq ?qzf ?qzr; (case qzm => k_mem); (case qzq => kernel_rfl!); (case qzf => exact rfl); (case qzr => exact hr9); (case qzG => k_extra "m_lam")) | fail)
  k_with "m_conT" => (first | (refine' told_B (d := 16) (x := .pi (p + ((linesT cs (x - p).toNat n).1 : Int)) (linesT cs (x - p).toNat n).2) "lines_target" ?qzG ?qzm ?qzq ?qzf ?qzr ?qzl; (case qzm => k_mem); (case qzq => kernel_rfl!); (case qzf => exact rfl); (case qzr => exact hr9); (case qzl => exact hl9); (case qzG => k_extra "m_lam")) | fail)
  k_with "m_conT" => (first | (refine' told_B (d := 16) (x := .at (p + (lineS cs (x - p).toNat : Int))) "line_start" ?qzG ?qzm ?qzq ?qzf ?qzr ?qzl; (case qzm => k_mem); (case qzq => kernel_rfl!); (case qzf => exact rfl); (case qzr => exact hr9); (case qzl => exact hl9); (case qzG => k_extra "m_lam")) | fail)
  k_with "m_conT" => (first | (refine' told_B (d := 16) (x := .at (p + (lineE cs (x - p).toNat : Int))) "line_end" ?qzG ?qzm ?qzq ?qzf ?qzr ?qzl; (case qzm => k_mem); (case qzq => kernel_rfl!); (case qzf => exact rfl); (case qzr => exact hr9); (case qzl => exact hl9); (case qzG => k_extra "m_lam")) | fail)
  k_with "m_conT" => (first | (refine' told_B (d := 16) (x := anOut p (scG cs (x - p).toNat n e)) "scan_lists" ?qzG ?qzm ?qzq ?qzf ?qzr ?qzl; (case qzm => k_mem); (case qzq => kernel_rfl!); (case qzf => exact rfl); (case qzr => exact hr9); (case qzl => exact hl9); (case qzG => k_extra "m_lam")) | fail)
  k_with "m_openU" => (rcases hR9 with ⟨rfl, ho9⟩)
  k_with "m_openU" => (rcases hR9 with ⟨a9, x9, y9, ⟨t9, rfl⟩, ⟨t8, rfl⟩, rfl, l9', rfl⟩)
  k_with "m_openU" => (rcases hR9 with ⟨a9, x9, y9, ⟨t9, rfl⟩, rfl, rfl, l9', rfl⟩)
  k_with "m_val" => (first | (exact ⟨by k_extra "m_sub", _, _, rfl, by k_mem⟩) | fail)
  k_with "m_val" => (first | (exact ⟨by k_extra "m_sub", _, _, _, rfl, by k_mem⟩) | fail)
  k_with "m_val" => (first | (exact ⟨fun _ h => h, _, rfl⟩) | fail)
  k_with "m_val" => (first | (exact ⟨fun _ h => h, outR_an ho9⟩) | fail)
  k_with "m_esc" => (first | (exact hesc _ _ _ _ _ _ _ _ _ (outE_an hE9) hS9 hk9 (by assumption) R8 U8) | fail)
  k_with "m_newl" => k_dflt (first | ((fail_if_success (have := hL9)); refine' newList_K ?zF ?zN ?_ ?zs; (case zF => assumption); (case zN => assumption); (case zs => size_fits); intro l0 hp0 F0 N0 l10; (have hl736 := neN (Nat.ne_of_gt (ltN (l10 _ (.head _))))); (have hL9 : ∀ q ∈ rest9, q.1 ≠ l0 := fun q hq => Nat.ne_of_lt (l10 q (.tail _ hq))); (have lN9 := swapN N0); clear N0; (try dsimp only at hl736); (try dsimp only)) | fail)
  k_with "m_app" => k_dflt (first | (refine' append_K (hsz := ?zz9) ?zF9 ?zN9 ?zU9 ?_; (case zF9 => assumption); (case zN9 => assumption); (case zU9 => (refine' Upd.tail ?a ?b; (case a => k_ne); (case b => exact Upd.head hL9))); (case zz9 => (rw [List.size_toArray, PySem.sizeLine_eq]; simp)); intro h9 F9 N9; (have lN9 := appN N9); clear N9; (try dsimp only [List.cons_append, List.nil_append] at lN9); (try dsimp only); (try k_fold)) | fail)
  k_with "m_leaveT" => k_dflt (first | (refine ⟨_, _, _, _, TT9, by assumption, by assumption, ?_⟩; intro h1 T1 F1 N1 B1 X1 P1 D1; exact hret _ _ _ _ _ ⟨_, _, _, rfl, .head _, hst9.an.mono (by k_extra "m_sub"), fun q hq => .tail _ (.tail _ (.tail _ (.tail _ (hs9 q hq)))), ⟨_, _, _, _, _, by k_mem, fun c hc => (hst9.co c hc).mono (by k_extra "m_sub")⟩⟩ T1 F1 N1 B1 X1 P1 D1) | fail)
  constructor
  intro pF loF meF mgF mbF dp un gd cnF csF aF cdF clF outer A₀ base h₀ LF mF sF QF EF B F X N T XB TB CB DD hk hd hu hret
  refine wpAny_call ?_
  k_dflt (refine' code_defCT (binds := [(Str.ofString "view", .ref v), (Str.ofString "table", .ref tb), (Str.ofString "place", .int x t), (Str.ofString "count", .int n t2), (Str.ofString "depth", .int e t3)]) ?k1 ?k2 ?k3 ?k4 ?k5 ?kXB ?kTB ?kDD ?kA ?kF ?kK ?k6 ?k7 ?k8 ?k9 ?kB ?kD ?_ ?c2 ?c3 ?c4; (case kA => exact rfl); (case kF => exact rfl); (case kK => exact hk); (case k1 => exact B); (case k2 => exact F); (case k3 => exact X); (case k4 => exact N); (case k5 => exact T); (case kXB => exact XB); (case kTB => exact TB); (case kDD => exact DD); (case k6 => k_is); (case k7 => k_is); (case k8 => ktr_room); (case k9 => first | exact BindsTo.of_eq rfl | exact binds_K (by k_in) rfl (by k_is) rfl rfl rfl); (case kB => exact rfl); (case kD => decide +kernel); (case c2 => exact rfl); (case c3 => exact rfl); (case c4 => exact rfl); k_whole; intro g' L' h' tk' cells' FG' F' N' Y' B' X' T' D' l1; (obtain ⟨oc1, oc2, oc3, oc4, oc5, hE', dc1, dc2, dc3, dc4, dc5⟩ := PyProof.Rows.kc_five Y'); subst hE'; (try simp only [List.cons_append, List.nil_append] at N'); (rw [show bindL _ _ _ = kstB (fun _ => none) [] from by kernel_rfl!] at F'); (try dsimp only); (try k_fold); (try (show (let ak : Around := _; wpAny _ ak _ _ _ _)); intro ak))
  have l9 := ltN (l1 _ (.head _))
  dsimp only at l9
  have TT9 : KtsTurn (List.filterMap (fun x => x.frame) (envX cnF csF LF aF cdF clF :: outer)) g' g' := .refl
  obtain ⟨rest9, lN9, hP9, hst9, hs9⟩ := startSt (v := v) (tb := tb) (x := x) (n := n) (e := e) (t := t) (t2 := t2) (t3 := t3) N' (startHP hP (by k_ne) (by k_ne) (by k_ne) (by k_ne) (by k_ne)) hv ht (dc5.trans (congrArg Data.cell (by kernel_rfl!))) (dc4.trans (congrArg Data.cell (by kernel_rfl!))) (dc3.trans (congrArg Data.cell (by kernel_rfl!))) (dc2.trans (congrArg Data.cell (by kernel_rfl!))) (dc1.trans (congrArg Data.cell (by kernel_rfl!)))
  clear dc1 dc2 dc3 dc4 dc5
  refine' AnsSt.open hst9 ?_
  intro q1 q2 q3 q4 q5 qm1 qd1 qm2 qd2 qm3 qd3 qm4 qd4 qm5 qd5 hv9 ht9 hco9
  k_extra "m_steps"))
theorem u74 : True := by
  k_with_none
  k_with "m_om" => (with_reducible first | decide | assumption | ((show @LT.lt Nat _ _ _); first | exact rm_a ‹_› rfl | exact rm_b ‹_› rfl | exact rm_c ‹_› | exact rm_d ‹_› | exact tn_a ‹_› | exact tn_b ‹_› | exact tn_c ‹_› | exact tn_d ‹_› | exact rm_e ‹_› rfl | exact tp_d ‹_› | exact tp_e ‹_› ‹_› | exact tp_h ‹_› | exact tp_v ‹_› | exact tr_a ‹_›) | ((show @LE.le Nat _ _ _); first | exact tn_h ‹_› | exact tp_c ‹_› | exact tp_k ‹_› ‹_› | exact tp_l ‹_› ‹_› ‹_› | exact tp_x ‹_› ‹_› | exact Nat.le_trans ‹_› ‹_›) | ((show @LT.lt Int _ _ _); first | exact tn_m ‹_› | exact tn_n ‹_› | exact tp_p ‹_› ‹_› ‹_› ‹_› | exact tp_q ‹_› ‹_› ‹_› | exact Int.lt_of_toNat_lt ‹_› | exact Int.lt_of_lt_of_le ‹_› ‹_› | exact Int.sub_left_lt_of_lt_add ‹_› | exact tr_b ‹_›) | ((show @LE.le Int _ _ _); first | exact tn_i ‹_› | exact tn_j ‹_› | exact tn_k ‹_› | exact tn_l ‹_› | exact tn_o ‹_› | exact tp_i ‹_› ‹_› | exact tp_a ‹_› ‹_› | exact tp_a1 ‹_› ‹_› | exact tp_b ‹_› | exact tp_r ‹_› ‹_› | exact tp_s ‹_› | exact Int.le_of_lt (Int.not_le.mp ‹_›) | exact Int.sub_nonneg_of_le ‹_› | exact Int.sub_nonneg_of_le (tn_i ‹_›) | exact Int.le_add_of_nonneg_right (Int.natCast_nonneg _)) | ((show @Eq Nat _ _); first | exact tn_s ‹_› | exact tn_t ‹_› | exact (tn_s ‹_›).symm | exact tp_g ‹_› | exact tn_s (Int.not_le.mp ‹_›) | exact tp_u ‹_› | exact tp_j) | ((show @Eq Int _ _); first | exact tn_e ‹_› | exact tn_f ‹_› | exact tn_g ‹_› | exact tp_m ‹_› | exact tp_n ‹_› | exact tp_o ‹_› ‹_› | exact tp_w ‹_› ‹_› | exact tp_y) | exact tp_f ‹_› ‹_› | exact tp_f ‹_› | exact tp_f (Int.not_lt.mp ‹_›) | exact tp_t ‹_› ‹_› | exact Nat.ne_of_gt ‹_› | exact Nat.ne_of_lt ‹_› | exact Nat.ne_of_gt (Nat.lt_trans ‹_› ‹_›))
  k_with "m_sd1" => ((case k1 | k2 | k3 | k4 | k5 => assumption))
  k_with "m_sd2" => ((case kK => first | exact rfl | assumption); (case kd => first | (dsimp only [ktrTop, Around.deeper]; omega) | ktr_room); (case ku => first | (dsimp only [ktrTop, Around.deeper]; omega) | ktr_units))
  k_with "m_steps" => (repeat' (first | ((first | (k_unfold) | fail); (try dsimp only)) | (first | (k_extra "m_ret") | fail) | (first | (walk1) | fail) | (dsimp only; (first | (walk1) | fail)) | fail "no step"))
  k_with "m_ret" => ((with_reducible refine' hret _ _ _ _ ?_ ?e2 ?e3); (case e2 => k_asm); (case e3 => k_asm); (try k_extra "m_val"))
  k_with "m_call" => k_dflt ((first | (refine' GivesU.useM ?G ?k1 ?k2 ?k3 ?k4 ?k5 ?kK ?kd ?ku ?_; k_extra "m_sd1"; (case G => k_extra "m_conU"); k_extra "m_sd2"; intro r9 news9 h9 tk9 hR9 F9 N9; (try k_sweep); k_extra "m_openU" <;> ((try dsimp only); (try k_fold))) | fail))
  k_with "m_call" => k_dflt ((first | (refine' Gives.useM ?G ?k1 ?k2 ?k3 ?k4 ?k5 ?kK ?kd ?ku ?_; k_extra "m_sd1"; (case G => k_extra "m_con"); k_extra "m_sd2"; intro r9 h9 tk9 hR9 F9 N9; (try k_sweep); (k_extra "m_open"); ((try dsimp only); (try k_fold))) | fail))
  k_with "m_ne" => ((with_reducible refine ofs_ne ?_); simp only [ne_eq, String.reduceEq, not_false_eq_true]; done)
  k_with "m_kind" => (first | kernel_rfl! | k_dflt (exact rfl) | repeat (first | with_reducible exact kind_here | with_reducible refine Eq.trans (kind_next (by k_extra "m_ne")) ?_ | fail "m_kind"))
  k_with "m_sub" => (intro q9 h9; repeat' (first | exact h9 | refine List.mem_append_left _ ?_ | refine List.mem_cons_of_mem _ ?_))
  k_with "m_view" => (first | assumption | exact ViewIn.mono (by assumption) (by k_extra "m_sub"))
  k_with "m_con" => ((with_reducible show Gives _ 77 _ _ _ _); exact line_start_ok (by k_extra "m_view") (by omega) (by omega))
  k_with "m_con" => ((with_reducible show Gives _ 84 _ _ _ _); exact line_end_ok (by k_extra "m_view") (by omega) (by omega))
  k_with "m_tab" => (first | assumption | exact TableIn.mono (by assumption) (by k_extra "m_sub"))
  k_with "m_conU" => ((with_reducible show GivesU _ 708 _ _ _ _); exact forward_word_ok (by k_extra "m_view") (by k_extra "m_tab") (by assumption) (by omega) (by omega))
  k_with "m_conU" => ((with_reducible show GivesU _ 98 _ _ _ _); exact lines_target_ok (by k_extra "m_view") (by omega) (by omega))
  k_with "m_open" => (rcases hR9 with ⟨i9, t9, rfl⟩)
  k_with "m_leave" => k_dflt (first | (refine' leave_pass ?hK FG9 rfl R9 U9 ?_; (case hK => assumption); intro h8 R8 U8; k_extra "m_esc") | fail)
  k_with "m_call" => k_dflt (first | (refine' GivesR.useM ?G ?k1 ?k2 ?k3 ?k4 ?k5 ?kK ?kd ?ku ?_ ?_; k_extra "m_sd1"; (case G => k_extra "m_conR"); k_extra "m_sd2"; rotate_left; (intro e9 dx9 nw9 G9 h9 tk9 msg9 g9 n9 hE9 hS9 hk9 FG9 R9 U9; k_extra "m_openE"); rotate_left; (intro r9 news9 h9 tk9 hR9 F9 N9; (try k_sweep); k_extra "m_openU" <;> ((try dsimp only); (try k_fold)))) | fail)
  k_with "m_openE" => skip
  k_with "m_conR" => ((with_reducible show GivesR _ 670 _ _ _ _ _ _); exact scan_lists_ok (by k_extra "m_view") (by k_extra "m_tab") (by assumption) (by omega) (by omega))
  k_with "m_cw" => ((with_reducible show wpAny _ _ (callWith _ _ _ (backTo _ (starEach (_ :: _) _)) []) _ _ _); k_dflt (refine' callWith_K ?zX ?zk ?_; (case zX => assumption); (case zk => k_is)))
  k_with "m_name" => (with_reducible refine' nameFree ?k1 ?k2 ?k3 ?k4 ?k5 ?k6 ?k7 ?_; (case k2 => k_extra "m_kind"); (case k3 => k_extra "m_kind"); (case k1 => assumption); (case k4 => repeat (first | assumption | refine List.mem_cons_of_mem _ ?_)); (case k5 => assumption); (case k6 => simp only [ne_eq, String.reduceEq, not_false_eq_true]); (case k7 => simp only [ne_eq, String.reduceEq, not_false_eq_true]))
  trivial
theorem trip5 {c1 c2 c3 c4 c5 : Addr} : TriplesOk (tab5 c1 c2 c3 c4 c5).toList := by simp [TriplesOk, rawInt]
theorem hit1 {c1 c2 c3 c4 c5 : Addr} {a b : Nat} : codeAmong ⟨641, 23, a, b⟩ (tab5 c1 c2 c3 c4 c5).toList = some (.ref c1) := by simp [codeAmong, rawInt]
theorem hit2 {c1 c2 c3 c4 c5 : Addr} {a b : Nat} : codeAmong ⟨642, 27, a, b⟩ (tab5 c1 c2 c3 c4 c5).toList = some (.ref c2) := by simp [codeAmong, rawInt]
theorem hit3 {c1 c2 c3 c4 c5 : Addr} {a b : Nat} : codeAmong ⟨643, 27, a, b⟩ (tab5 c1 c2 c3 c4 c5).toList = some (.ref c3) := by simp [codeAmong, rawInt]
theorem hit4 {c1 c2 c3 c4 c5 : Addr} {a b : Nat} : codeAmong ⟨644, 27, a, b⟩ (tab5 c1 c2 c3 c4 c5).toList = some (.ref c4) := by simp [codeAmong, rawInt]
theorem hit5 {c1 c2 c3 c4 c5 : Addr} {a b : Nat} : codeAmong ⟨645, 30, a, b⟩ (tab5 c1 c2 c3 c4 c5).toList = some (.ref c5) := by simp [codeAmong, rawInt]
theorem told_A2 {w : World} {rest : Led} {f : Addr} {d : Nat} {x : An} {fo : Obj} {fd : FuncData} (s : String) (G : GivesR w f d [] rest rest (GoodV rest x) (BadV x)) (hm : (f, fo) ∈ rest) (_hq : hasName fo s = true) (hfd : fo.data = .func fd) :
    GivesT w 722 (d + 3) [.ref f] rest (TabRA2 rest x) :=
  (told_ok G hm hfd).conseq fun r n' _ _ _ hR _ => ⟨n', told_an hR, fun _ h => h⟩
theorem told_B2 {w : World} {l a : Addr} {vs : List Value} {c : Nat} {rest : Led} {f : Addr} {d : Nat} {x : An} {fo : Obj} {fd : FuncData} (s : String)
    (G : GivesR w f d [] ((l, listOf (Value.ref a :: vs).toArray c) :: rest) ((l, listOf (Value.ref a :: vs).toArray c) :: rest) (GoodV ((l, listOf (Value.ref a :: vs).toArray c) :: rest) x) (BadV x))
    (hm : (f, fo) ∈ (l, listOf (Value.ref a :: vs).toArray c) :: rest) (_hq : hasName fo s = true) (hfd : fo.data = .func fd) (hl : ∀ q ∈ rest, q.1 ≠ l) :
    GivesT w 722 (d + 3) [.ref f] ((l, listOf (Value.ref a :: vs).toArray c) :: rest) (TabRB2 l (listOf (Value.ref a :: vs).toArray c) rest x) :=
  (told_x (fix := [(l, listOf (Value.ref a :: vs).toArray c)]) (rest := rest) G hm hfd (List.forall_mem_cons.mpr ⟨notAnO_refs, fun _ h => nomatch h⟩) (fun q hq => List.forall_mem_cons.mpr ⟨hl q hq, fun _ h => nomatch h⟩)).conseq
    fun r n' _ _ _ hR _ => by
      obtain ⟨rest', rfl, h1, h2, h3⟩ := hR
      exact ⟨_, ⟨rest', rfl, fun q hq => h1 q hq _ (.head _), h2, h3⟩, fun q hq => hq⟩
theorem hitB {h₀ h : Heap} {L f l : Addr} {fo F : Obj} {rest : Led} (N : News h₀ L h ((f, fo) :: (l, F) :: rest)) (hL : ∀ q ∈ rest, q.1 ≠ l) (l1 : ∀ q ∈ (l, F) :: rest, q.1 < f) : News h₀ L h ((l, F) :: (f, fo) :: rest) ∧ ∀ q ∈ (f, fo) :: rest, q.1 ≠ l :=
  ⟨swapN N, List.forall_mem_cons.mpr ⟨Nat.ne_of_gt (l1 _ (.head _)), hL⟩⟩
theorem appN0 {h₀ h : Heap} {L l : Addr} {vs : List Value} {x : Value} {c : Nat} {news : Led} (N : News h₀ L h ((l, listOf (vs.toArray.push x) c) :: news)) : News h₀ L h ((l, listOf (vs ++ [x]).toArray c) :: news) := by
  rw [List.push_toArray] at N
  exact N
theorem startSt2 {w : World} {h₀ h : Heap} {L c1 c2 c3 c4 c5 v tb : Addr} {x n e : Int} {t t2 t3 : Tok} {cs : List Int} {p : Int} {syn : Kd → Addr} {news : Led} {o1 o2 o3 o4 o5 : Obj} {T : Addr × Obj} {codes : List Addr} (N : News h₀ L h ((c5, o1) :: (c4, o2) :: (c3, o3) :: (c2, o4) :: (c1, o5) :: news))
    (hT : T ∈ news) (hco : ∀ c ∈ codes, CodeIn news c) (hv : ViewIn news v cs p) (ht : TableIn w news tb syn)
    (d1 : o5.data = .cell (some (.ref v))) (d2 : o4.data = .cell (some (.ref tb))) (d3 : o3.data = .cell (some (.int x t))) (d4 : o2.data = .cell (some (.int n t2))) (d5 : o1.data = .cell (some (.int e t3))) :
    ∃ rest, News h₀ L h rest ∧ AnsSt w c1 c2 c3 c4 c5 v tb x n e t t2 t3 cs p syn [] [] codes rest ∧ (∀ q ∈ news, q ∈ rest) ∧ T ∈ rest := by
  have sub : ∀ q ∈ news, q ∈ (c5, o1) :: (c4, o2) :: (c3, o3) :: (c2, o4) :: (c1, o5) :: news := fun q hq => .tail _ (.tail _ (.tail _ (.tail _ (.tail _ hq))))
  exact ⟨_, N, ⟨⟨_, .tail _ (.tail _ (.tail _ (.tail _ (.head _)))), d1⟩, ⟨_, .tail _ (.tail _ (.tail _ (.head _))), d2⟩, ⟨_, .tail _ (.tail _ (.head _)), d3⟩, ⟨_, .tail _ (.head _), d4⟩, ⟨_, .head _, d5⟩, hv.mono sub, ht.mono sub, .nil, fun c hc => (hco c hc).mono sub⟩, sub, sub _ hT⟩
set_option maxHeartbeats 4000000 in
theorem answers_hit {w : World} {news : Led} {v tb : Addr} {cs : List Int} {p x n e : Int} {syn : Kd → Addr} {t t2 t3 : Tok} (hv : ViewIn news v cs p) (ht : TableIn w news tb syn) (hg : Sgns cs) (h0 : p ≤ x) (h1 : x ≤ p + cs.length) (hT : TabFull news) :
    GivesC w 741 24 [.ref v, .ref tb, .int x t, .int n t2, .int e t3] news (AnsR news (ansL cs p (x - p).toNat n e)) := (by exact qz : Qz _ (by
  k_with "m_lam0" => (first | (k_dflt (refine' kla_eval ?d0 ?_; (case d0 => exact rfl); refine' kla_hit ?zF ?zN ?zT ?zC ?zcd ?zmem ?zt ?zfh ?zcl ?_; (case zF => assumption); (case zC => kn_code); (case zN => assumption); (case zT => assumption); (case zcd => exact rfl); (case zmem => first | exact htab9 | exact List.Mem.tail _ htab9); (case zt => with_reducible exact @trip5 c1 c2 c3 c4 c5); (case zfh => with_reducible first | exact @hit1 c1 c2 c3 c4 c5 _ _ | exact @hit2 c1 c2 c3 c4 c5 _ _ | exact @hit3 c1 c2 c3 c4 c5 _ _ | exact @hit4 c1 c2 c3 c4 c5 _ _ | exact @hit5 c1 c2 c3 c4 c5 _ _); (case zcl => exact rfl); intro f9 ct9 h9 tk9 F9 N9 l19); k_dflt (first | (have hz9 := hitB N9 hL9 l19; have lN9 := hz9.1; have hl9 := hz9.2; clear hz9 N9) | skip); (try dsimp only)) | fail)
  k_with "m_call" => ((with_reducible show wpAny _ _ (call (Value.ref 722) _) _ _ _); k_dflt (first | (refine' GivesT.useA2 (d := 19) ?jG ?j1 ?j2 ?j3 ?j4 ?j5 ?jXB ?jTB ?jDD ?jK ?jd ?ju ?_; (case j1 => assumption); (case j2 => assumption); (case j3 => assumption); (case j4 => assumption); (case j5 => assumption); (case jXB => exact XB); (case jTB => exact TB); (case jDD => assumption); (case jK => exact rfl); (case jd => first | (dsimp only [ktrTop, Around.deeper]; omega) | ktr_room); (case ju => first | (dsimp only [ktrTop, Around.deeper]; omega) | ktr_units); (case jG => k_extra "m_conT"); intro ra9 rest9 h9 tk9 g9 han9 hsub9 T9 F9 N9 B9 X9 P9 D9; (have hst9 := AnsSt.hit hst9 hsub9 han9); (have hs9 := fun q (hq : q ∈ news) => hsub9 q (List.Mem.tail _ (hs9 q hq))); (have htab9 := hsub9 _ (List.Mem.tail _ htab9)); (have TT9 := KtsTurn.trans TT9 T9); (refine' AnsSt.open hst9 ?_); (intro q1 q2 q3 q4 q5 qm1 qd1 qm2 qd2 qm3 qd3 qm4 qd4 qm5 qd5 hv9 ht9 hco9); (refine' CodeIn.open5 hco9 ?_); (intro o1 v1 e1 o2 v2 e2 o3 v3 e3 o4 v4 e4 o5 v5 e5 cm1 cd1 ce1 cm2 cd2 ce2 cm3 cd3 ce3 cm4 cd4 ce4 cm5 cd5 ce5); (try dsimp only); (try k_fold)) | fail))
  k_with "m_call" => ((with_reducible show wpAny _ _ (call (Value.ref 722) _) _ _ _); k_dflt (first | (refine' GivesT.useB2 (d := 19) ?jG ?j1 ?j2 ?j3 ?j4 ?j5 ?jXB ?jTB ?jDD ?jK ?jd ?ju ?_; (case j1 => assumption); (case j2 => assumption); (case j3 => assumption); (case j4 => assumption); (case j5 => assumption); (case jXB => exact XB); (case jTB => exact TB); (case jDD => assumption); (case jK => exact rfl); (case jd => first | (dsimp only [ktrTop, Around.deeper]; omega) | ktr_room); (case ju => first | (dsimp only [ktrTop, Around.deeper]; omega) | ktr_units); (case jG => k_extra "m_conT"); intro ra9 rest9 h9 tk9 g9 han9 hL9 hsub9 T9 F9 N9 B9 X9 P9 D9; (have hst9 := AnsSt.hit hst9 hsub9 han9); (have hs9 := fun q (hq : q ∈ news) => hsub9 q (List.Mem.tail _ (hs9 q hq))); (have htab9 := hsub9 _ (List.Mem.tail _ htab9)); (have TT9 := KtsTurn.trans TT9 T9); (refine' AnsSt.open hst9 ?_); (intro q1 q2 q3 q4 q5 qm1 qd1 qm2 qd2 qm3 qd3 qm4 qd4 qm5 qd5 hv9 ht9 hco9); (refine' CodeIn.open5 hco9 ?_); (intro o1 v1 e1 o2 v2 e2 o3 v3 e3 o4 v4 e4 o5 v5 e5 cm1 cd1 ce1 cm2 cd2 ce2 cm3 cd3 ce3 cm4 cd4 ce4 cm5 cd5 ce5); (try dsimp only); (try k_fold)) | fail))
  k_with "m_lam" => (
    (first | (constructor) | fail)
    intro pF loF meF mgF mbF dp un gd cnF csF aF cdF clF outer A₀ base h₀ LF mF sF QF EF B F X N T hk hd hu hret hesc
    (first | (refine wpAny_call ?_) | fail)
    k_dflt (first | (refine' kla_code (binds := []) ?jl1 ?jl2 ?jl3 ?jl4 ?jl5 ?jlA ?jlF ?jlK ?jl6 ?jl7 ?jl8 ?jl9 ?jlB ?_ ?jc2 ?jc3 ?jc4 ?jc5; (case jlA => (first | (exact rfl) | fail)); (case jlF => (first | (exact rfl) | fail)); (case jlK => (first | (exact hk) | fail)); (case jl1 => (first | (exact B) | fail)); (case jl2 => (first | (exact F) | fail)); (case jl3 => (first | (exact X) | fail)); (case jl4 => (first | (exact N) | fail)); (case jl5 => (first | (exact T) | fail)); (case jl6 => (first | (k_mem) | fail)); (case jl7 => (first | (exact codeRec_news N (by k_mem) (by assumption) (by assumption)) | fail)); (case jl8 => (first | (ktr_room) | fail)); (case jl9 => (first | (exact rfl) | fail)); (case jc5 => (first | (decide) | fail)); (case jlB => (first | (exact locs rfl) | fail)); (case jc2 => (first | (exact rfl) | fail)); (case jc3 => (first | (exact rfl) | fail)); (case jc4 => (first | (exact rfl) | fail)); k_whole; intro g' L' h' FG' F' N' B' X' T'; (try dsimp only); (try k_fold)) | fail)
    k_extra "m_steps")
  k_with "m_conT" => (first | (refine' told_A2 (d := 16) (x := .pb (p + ((fwdW cs (x - p).toNat n).1 : Int)) (fwdW cs (x - p).toNat n).2) "forward_word" ?qzG ?qzm ?qzq ?qzf; (case qzm => k_mem); (case qzq => kernel_rfl!); (case qzf => exact rfl); (case qzG => k_extra "m_lam")) | fail)
  k_with "m_conT" => (first | (refine' told_B2 (d := 16) (x := .pi (p + ((linesT cs (x - p).toNat n).1 : Int)) (linesT cs (x - p).toNat n).2) "lines_target" ?qzG ?qzm ?qzq ?qzf ?qzl; (case qzm => k_mem); (case qzq => kernel_rfl!); (case qzf => exact rfl); (case qzl => exact hl9); (case qzG => k_extra "m_lam")) | fail)
  k_with "m_conT" => (first | (refine' told_B2 (d := 16) (x := .at (p + (lineS cs (x - p).toNat : Int))) "line_start" ?qzG ?qzm ?qzq ?qzf ?qzl; (case qzm => k_mem); (case qzq => kernel_rfl!); (case qzf => exact rfl); (case qzl => exact hl9); (case qzG => k_extra "m_lam")) | fail)
  k_with "m_conT" => (first | (refine' told_B2 (d := 16) (x := .at (p + (lineE cs (x - p).toNat : Int))) "line_end" ?qzG ?qzm ?qzq ?qzf ?qzl; (case qzm => k_mem); (case qzq => kernel_rfl!); (case qzf => exact rfl); (case qzl => exact hl9); (case qzG => k_extra "m_lam")) | fail)
  k_with "m_conT" => (first | (refine' told_B2 (d := 16) (x := anOut p (scG cs (x - p).toNat n e)) "scan_lists" ?qzG ?qzm ?qzq ?qzf ?qzl; (case qzm => k_mem); (case qzq => kernel_rfl!); (case qzf => exact rfl); (case qzl => exact hl9); (case qzG => k_extra "m_lam")) | fail)
  k_with "m_openU" => (rcases hR9 with ⟨rfl, ho9⟩)
  k_with "m_openU" => (rcases hR9 with ⟨a9, x9, y9, ⟨t9, rfl⟩, ⟨t8, rfl⟩, rfl, l9', rfl⟩)
  k_with "m_openU" => (rcases hR9 with ⟨a9, x9, y9, ⟨t9, rfl⟩, rfl, rfl, l9', rfl⟩)
  k_with "m_val" => (first | (exact ⟨by k_extra "m_sub", _, _, rfl, by k_mem⟩) | fail)
  k_with "m_val" => (first | (exact ⟨by k_extra "m_sub", _, _, _, rfl, by k_mem⟩) | fail)
  k_with "m_val" => (first | (exact ⟨fun _ h => h, _, rfl⟩) | fail)
  k_with "m_val" => (first | (exact ⟨fun _ h => h, outR_an ho9⟩) | fail)
  k_with "m_esc" => (first | (exact hesc _ _ _ _ _ _ _ _ _ (outE_an hE9) hS9 hk9 (by assumption) R8 U8) | fail)
  k_with "m_newl" => k_dflt (first | ((fail_if_success (have := hL9)); refine' newList_K ?zF ?zN ?_ ?zs; (case zF => assumption); (case zN => assumption); (case zs => size_fits); intro l0 hp0 F0 N0 l10; (have hL9 := fun q (hq : q ∈ _) => Nat.ne_of_lt (ltN (l10 q hq))); (try dsimp only)) | fail)
  k_with "m_app" => k_dflt (first | (refine' append_K (hsz := ?zz9) ?zF9 ?zN9 ?zU9 ?_; (case zF9 => assumption); (case zN9 => assumption); (case zU9 => exact Upd.head hL9); (case zz9 => (rw [List.size_toArray, PySem.sizeLine_eq]; simp)); intro h9 F9 N9; (have lN9 := appN0 N9); clear N9; (try dsimp only [List.cons_append, List.nil_append] at lN9); (try dsimp only); (try k_fold)) | fail)
  k_with "m_leaveT" => k_dflt (first | (refine ⟨_, _, _, _, TT9, by assumption, by assumption, ?_⟩; intro h1 T1 F1 N1 B1 X1 P1 D1; exact hret _ _ _ _ _ ⟨_, _, _, rfl, .head _, hst9.an.mono (by k_extra "m_sub"), fun q hq => .tail _ (.tail _ (.tail _ (hs9 q hq))), ⟨c1, c2, c3, c4, c5, .tail _ (.tail _ (.tail _ htab9)), fun c hc => (hco9 c hc).mono (by k_extra "m_sub")⟩⟩ T1 F1 N1 B1 X1 P1 D1) | fail)
  constructor
  intro pF loF meF mgF mbF dp un gd cnF csF aF cdF clF outer A₀ base h₀ LF mF sF QF EF B F X N T XB TB CB DD hk hd hu hret
  refine wpAny_call ?_
  k_dflt (refine' code_defCT (binds := [(Str.ofString "view", .ref v), (Str.ofString "table", .ref tb), (Str.ofString "place", .int x t), (Str.ofString "count", .int n t2), (Str.ofString "depth", .int e t3)]) ?k1 ?k2 ?k3 ?k4 ?k5 ?kXB ?kTB ?kDD ?kA ?kF ?kK ?k6 ?k7 ?k8 ?k9 ?kB ?kD ?_ ?c2 ?c3 ?c4; (case kA => exact rfl); (case kF => exact rfl); (case kK => exact hk); (case k1 => exact B); (case k2 => exact F); (case k3 => exact X); (case k4 => exact N); (case k5 => exact T); (case kXB => exact XB); (case kTB => exact TB); (case kDD => exact DD); (case k6 => k_is); (case k7 => k_is); (case k8 => ktr_room); (case k9 => first | exact BindsTo.of_eq rfl | exact binds_K (by k_in) rfl (by k_is) rfl rfl rfl); (case kB => exact rfl); (case kD => decide +kernel); (case c2 => exact rfl); (case c3 => exact rfl); (case c4 => exact rfl); k_whole; intro g' L' h' tk' cells' FG' F' N' Y' B' X' T' D' l1; (obtain ⟨oc1, oc2, oc3, oc4, oc5, hE', dc1, dc2, dc3, dc4, dc5⟩ := PyProof.Rows.kc_five Y'); subst hE'; (try simp only [List.cons_append, List.nil_append] at N'); (rw [show bindL _ _ _ = kstB (fun _ => none) [] from by kernel_rfl!] at F'); (try dsimp only); (try k_fold); (try (show (let ak : Around := _; wpAny _ ak _ _ _ _)); intro ak))
  obtain ⟨c1, c2, c3, c4, c5, hm736, hcodes⟩ := hT
  have TT9 : KtsTurn (List.filterMap (fun x => x.frame) (envX cnF csF LF aF cdF clF :: outer)) g' g' := .refl
  obtain ⟨rest9, lN9, hst9, hs9, htab9⟩ := startSt2 (v := v) (tb := tb) (x := x) (n := n) (e := e) (t := t) (t2 := t2) (t3 := t3) N' hm736 hcodes hv ht (dc5.trans (congrArg Data.cell (by kernel_rfl!))) (dc4.trans (congrArg Data.cell (by kernel_rfl!))) (dc3.trans (congrArg Data.cell (by kernel_rfl!))) (dc2.trans (congrArg Data.cell (by kernel_rfl!))) (dc1.trans (congrArg Data.cell (by kernel_rfl!)))
  clear dc1 dc2 dc3 dc4 dc5
  refine' AnsSt.open hst9 ?_
  intro q1 q2 q3 q4 q5 qm1 qd1 qm2 qd2 qm3 qd3 qm4 qd4 qm5 qd5 hv9 ht9 hco9
  refine' CodeIn.open5 hco9 ?_
  intro o1 v1 e1 o2 v2 e2 o3 v3 e3 o4 v4 e4 o5 v5 e5 cm1 cd1 ce1 cm2 cd2 ce2 cm3 cd3 ce3 cm4 cd4 ce4 cm5 cd5 ce5
  k_extra "m_steps"))
theorem GivesC.use0 {w : World} {f : Addr} {d : Nat} {vs : List Value} {news : Led} {R : Value → Led → Prop}
    {p : Program} {loose : List Str} {mean : ExcName → Option Value} {mg mb : Str → Option Value}
    {dp un : Nat} {gd : Option (List Code)} {cn : Str} {cs : Scope} {a : Addr} {ccd : Value} {cl : List (Str × Addr)}
    {A₀ : Around} {base h₀ : Heap} {L : Addr} {m : Str → Option Value} {s : Shared} {Q E : Value → Shared → Prop} (G : GivesC w f d vs news R)
    (B : Below A₀ base [] h₀) (F : Fr h₀ L s.heap m) (X : (Mine.T.heap_1 w.params).In h₀) (N : News h₀ L s.heap news) (T : Top p loose mean mg mb h₀) (XB : (Mine.T.heap_1 w.params).In base) (TB : Top p loose mean mg mb base) (CB : CodeHd base 740 736) (hk : cs.kind = .function)
    (hd : dp + d < recursionLimit) (hu : un + 8 * d < cLine)
    (hret : ∀ r news' h' tk', R r news' → Fr h₀ L h' m → News h₀ L h' news' → Q r { s with heap := h', toks := tk' }) :
    wpAny (model PR w) (ktrTop dp un gd cn cs L a ccd cl []) (call (.ref f) vs) Q E s :=
  G.run p loose mean mg mb dp un gd cn cs a ccd cl [] A₀ base h₀ L m s Q E B F X N T XB TB CB ktsDicts_nil hk hd hu fun r n' h' tk' h₁ hr T₁ F₁ N₁ _ _ _ _ => by
    have up : ∀ b o, h₀.get? b = some o → h₁.get? b = some o := fun b o e => T₁.other b o e (fun h => nomatch h)
    refine hret r n' h' tk' hr ⟨F₁.ns, fun b o e => F₁.keep b o (up b o e), by rw [← T₁.size]; exact F₁.above⟩ fun q hq => ⟨(N₁ q hq).1, (N₁ q hq).2.1, ?_⟩
    cases e : h₀.get? q.1 with
    | none => rfl
    | some o =>
      have := (N₁ q hq).2.2
      rw [up _ _ e] at this
      cases this
noncomputable def offA (a : Addr) (nw : Led) : Led := nw.filter fun q => decide (q.1 ≠ a)
theorem off_mem {a : Addr} {nw : Led} {q : Addr × Obj} (h : q ∈ nw) (hn : q.1 ≠ a) : q ∈ offA a nw := List.mem_filter.mpr ⟨h, decide_eq_true hn⟩
theorem off_sub {a : Addr} {nw : Led} {q : Addr × Obj} (h : q ∈ offA a nw) : q ∈ nw := (List.mem_filter.mp h).1
theorem off_ne {a : Addr} {nw : Led} : ∀ q ∈ offA a nw, q.1 ≠ a := fun _ h => of_decide_eq_true (List.mem_filter.mp h).2
inductive DeckIn (nw : Led) (dk ce : Addr) (k : Int) : Prop where
  | mk  (cells : List Value) (ns : List Int) (c c2 : Nat) (tk : Tok) (q1 : (ce, listOf cells.toArray c2) ∈ nw) (q2 : IntsAre cells ns) (q3 : cells.length ≤ 40) (q4 : (dk, listOf [.ref ce, .int k tk].toArray c) ∈ nw) (q5 : @LT.lt Nat _ ce dk)
inductive DrawR (nw : Led) (dk ce : Addr) (k many : Int) (r : Value) (n' : Led) : Prop where
  | mk (v : Int) (t2 : Tok) (q1 : r = .int v t2) (q2 : 0 ≤ v) (q3 : v < many) (q4 : DeckIn n' dk ce (k + 1)) (q5 : ∀ q ∈ nw, notDk q.2 = true → q ∈ n') (q6 : ∀ q ∈ n', q ∈ nw ∨ q.2.cls = .type "list")
theorem draw_in {w : World} {nw : Led} {dk ce : Addr} {k many : Int} {t : Tok} (h : DeckIn nw dk ce k) (hm : 0 < many) (hm2 : many ≤ 100) (h0 : 0 ≤ k) (h1 : k ≤ 100) : GivesU w 715 1 [.ref dk, .int many t] nw (DrawR nw dk ce k many) := by
  obtain ⟨cells, ns, c, c2, tk, m1, hi, hl, m2, hlt⟩ := h
  refine ⟨fun p loose mean mg mb dp un gd cn cs a ccd cl outer A₀ base h₀ L m s Q E B F X N T hk hd hu hret => ?_⟩
  refine (draw_ok (rest := offA dk nw) (many := many) (t := t) (c := c) (tk := tk) (c2 := c2) hi hl hm hm2 h0 h1 hlt off_ne).run p loose mean mg mb dp un gd cn cs a ccd cl outer A₀ base h₀ L m s Q E B F X
    (fun q hq => N q ?_) T hk hd hu fun r n' h' tk' hR F' N' => ?_
  · rcases List.mem_cons.mp hq with rfl | hq
    · exact m1
    · rcases List.mem_cons.mp hq with rfl | hq
      · exact m2
      · exact off_sub hq
  · obtain ⟨v, t2, tk2, c', rfl, h0', h1', rfl⟩ := hR
    refine hret _ _ h' tk' ⟨v, t2, rfl, h0', h1', ⟨cells, ns, c', c2, tk2, .head _, hi, hl, .tail _ (.head _), hlt⟩, fun q hq hn => .tail _ (.tail _ (off_mem hq ?_)), fun q hq => ?_⟩ F' N'
    · exact ne_addr N hq m2 (notDk_ne hn _ _ _)
    · rcases List.mem_cons.mp hq with rfl | hq
      · exact .inr rfl
      · rcases List.mem_cons.mp hq with rfl | hq
        · exact .inr rfl
        · exact .inl (off_sub hq)
structure GoodO (o : Obj) : Prop where
  dk : notDk o = true
  it : NotIt o
  tab : o ≠ tabObj #[]
  nc : ∀ x, o.data ≠ .cell x
noncomputable def isCellO (o : Obj) : Bool := match o.data with
  | .cell _ => true
  | _ => false
noncomputable def isTabO (o : Obj) : Bool := match o.data with
  | .fields vs => vs.isEmpty
  | _ => false
theorem nc_of {o : Obj} (h : isCellO o = false) : ∀ x, o.data ≠ .cell x := fun x e => by
  unfold isCellO at h
  rw [e] at h
  cases h
theorem nt_of {o : Obj} (h : isTabO o = false) : o ≠ tabObj #[] := fun e => by
  rw [e] at h
  cases h
theorem good_inst {c d : Addr} : GoodO (instObj c d) := ⟨rfl, .inl ⟨by nofun, by nofun⟩, nt_of rfl, nc_of rfl⟩
theorem good_dict {es : List DictEntry} {n : Nat} : GoodO (dictOf es n) := ⟨rfl, .inl ⟨by simp, by simp⟩, nt_of rfl, nc_of rfl⟩
theorem good_tab {w : World} {o : Obj} {kvs : List (Int × Value)} (h : o.IsDictOf (PySem.intKind PR w) kvs) : GoodO o := by
  have hc := notDk_dict h
  refine ⟨hc.1, .inl ⟨by rw [hc.2]; simp, by rw [hc.2]; simp⟩, fun e => ?_, fun x e => ?_⟩
  · have := hc.2
    rw [e] at this
    cases this
  · obtain ⟨es, n, _, c2, _⟩ := h
    rw [c2] at e
    cases e
theorem notDk_ints {vs : List Value} {cs : List Int} {n : Nat} (h : IntsAre vs cs) : notDk (listOf vs.toArray n) = true := by
  cases h with
  | nil => rfl
  | cons i t r => unfold notDk; simp
theorem good_ints {vs : List Value} {cs : List Int} {n : Nat} (h : IntsAre vs cs) : GoodO (listOf vs.toArray n) := ⟨notDk_ints h, .inl ⟨by simp, by simp⟩, nt_of rfl, nc_of rfl⟩
theorem good_code {o : Obj} {vs : Array Value} {s : Str} {t : Tok} (h : o.data = .fields vs) (h2 : vs[1]? = some (.str s t)) : GoodO o := by
  refine ⟨by unfold notDk; rw [h], .inr (.inr ⟨vs, s, t, h, h2⟩), fun e => ?_, fun x e => ?_⟩
  · rw [e] at h
    cases h
    cases h2
  · rw [h] at e
    cases e
theorem ViewIn.pick {nw nw' : Led} {v : Addr} {cs : List Int} {p : Int} (h : ViewIn nw v cs p) (hs : ∀ q ∈ nw, GoodO q.2 → q ∈ nw') : ViewIn nw' v cs p := by
  obtain ⟨dx, lc, h1, h2, k1, k2, t, vs, n, m1, m2, m3, hi, r5, r6, r7⟩ := h
  exact ⟨dx, lc, h1, h2, k1, k2, t, vs, n, hs _ m1 good_inst, hs _ m2 good_dict, hs _ m3 (good_ints hi), hi, r5, r6, r7⟩
theorem SynIn.pick {nw nw' : Led} {a : Addr} {k : Kd} (h : SynIn nw a k) (hs : ∀ q ∈ nw, GoodO q.2 → q ∈ nw') : SynIn nw' a k := by
  obtain ⟨dx, h1, h2, h3, k1, k2, k3, t1, t3, mv, m1, m2⟩ := h
  exact ⟨dx, h1, h2, h3, k1, k2, k3, t1, t3, mv, hs _ m1 good_inst, hs _ m2 good_dict⟩
theorem TableIn.pick {w : World} {nw nw' : Led} {tb : Addr} {syn : Kd → Addr} (h : TableIn w nw tb syn) (hs : ∀ q ∈ nw, GoodO q.2 → q ∈ nw') : TableIn w nw' tb syn := by
  obtain ⟨td, rd, o, h1, h2, k1, k2, m1, m2, m3, hd, lo, hy⟩ := h
  exact ⟨td, rd, o, h1, h2, k1, k2, hs _ m1 good_inst, hs _ m2 good_dict, hs _ m3 (good_tab hd), hd, lo, fun k => (hy k).pick hs⟩
def CellAt (nw : Led) (c : Addr) (x : Option Value) : Prop := ∃ o, (c, o) ∈ nw ∧ o.data = .cell x
theorem CellAt.open {nw : Led} {c : Addr} {x : Option Value} {P : Prop} (h : CellAt nw c x) (k : ∀ o : Obj, (c, o) ∈ nw → o.data = .cell x → P) : P := h.elim fun o y => k o y.1 y.2
theorem CellAt.pick {nw nw' : Led} {c : Addr} {x : Option Value} (h : CellAt nw c x) (hs : ∀ q ∈ nw, q.1 = c → (∃ x, q.2.data = .cell x) → q ∈ nw') : CellAt nw' c x := by
  obtain ⟨o, m, d⟩ := h
  exact ⟨o, hs _ m rfl ⟨_, d⟩, d⟩
theorem CodeIn.pick {nw nw' : Led} {c : Addr} (h : CodeIn nw c) (hs : ∀ q ∈ nw, GoodO q.2 → q ∈ nw') : CodeIn nw' c := by
  obtain ⟨o, vs, t, m, d1, d2⟩ := h
  exact ⟨o, vs, t, hs _ m (good_code d1 d2), d1, d2⟩
theorem TabFull.pick {nw nw' : Led} (h : TabFull nw) (hs : ∀ q ∈ nw, GoodO q.2 → q ∈ nw') : TabFull nw' := by
  obtain ⟨c1, c2, c3, c4, c5, m, hc⟩ := h
  exact ⟨c1, c2, c3, c4, c5, hs _ m ⟨rfl, .inl ⟨by nofun, by nofun⟩, by simp, nc_of rfl⟩, fun c h => (hc c h).pick hs⟩
theorem notDk_cell {o : Obj} (h : ∃ x, o.data = .cell x) : notDk o = true := by
  obtain ⟨x, h⟩ := h
  unfold notDk
  rw [h]
theorem tab_cell {o : Obj} (h : ∃ x, o.data = .cell x) : o ≠ tabObj #[] := fun e => by
  obtain ⟨x, h⟩ := h
  rw [e] at h
  cases h
structure LawSt (w : World) (cD cB dk ce tb : Addr) (syn : Kd → Addr) (k : Int) (bx : Option Value) (cs : List Int) (views : List (Addr × Int)) (nw : Led) : Prop where
  deck : DeckIn nw dk ce k
  cd : CellAt nw cD (some (.ref dk))
  cb : CellAt nw cB bx
  tab : TableIn w nw tb syn
  tp : (736, tabObj #[]) ∈ nw ∨ TabFull nw
  vw : ∀ z ∈ views, ViewIn nw z.1 cs z.2
  ne : cD ≠ cB
section
variable {w : World} {cD cB dk ce tb : Addr} {syn : Kd → Addr} {k : Int} {bx : Option Value} {cs : List Int} {views : List (Addr × Int)} {nw nw' : Led}
theorem DeckIn.mono (h : DeckIn nw dk ce k) (hs : ∀ q ∈ nw, q ∈ nw') : DeckIn nw' dk ce k := by
  obtain ⟨cells, ns, c, c2, tk, m1, hi, hl, m2, hlt⟩ := h
  exact ⟨cells, ns, c, c2, tk, hs _ m1, hi, hl, hs _ m2, hlt⟩
theorem LawSt.mono (h : LawSt w cD cB dk ce tb syn k bx cs views nw) (hs : ∀ q ∈ nw, q ∈ nw') : LawSt w cD cB dk ce tb syn k bx cs views nw' :=
  ⟨h.deck.mono hs, h.cd.pick fun q hq _ _ => hs q hq, h.cb.pick fun q hq _ _ => hs q hq, h.tab.mono hs, h.tp.imp (hs _) fun t => t.pick fun q hq _ => hs q hq, fun z hz => (h.vw z hz).mono hs, h.ne⟩
theorem LawSt.draw {many : Int} {r : Value} (h : LawSt w cD cB dk ce tb syn k bx cs views nw) (hR : DrawR nw dk ce k many r nw') : LawSt w cD cB dk ce tb syn (k + 1) bx cs views nw' := by
  obtain ⟨v, t2, _, _, _, hd, hk, _⟩ := hR
  exact ⟨hd, h.cd.pick fun q hq _ hc => hk q hq (notDk_cell hc), h.cb.pick fun q hq _ hc => hk q hq (notDk_cell hc), h.tab.pick fun q hq g => hk q hq g.dk, h.tp.imp (fun m => hk _ m rfl) fun t => t.pick fun q hq g => hk q hq g.dk, fun z hz => (h.vw z hz).pick fun q hq g => hk q hq g.dk, h.ne⟩
theorem LawSt.by_ {h₀ h : Heap} {L : Addr} {o o' : Obj} {y : Option Value} (H : LawSt w cD cB dk ce tb syn k bx cs views nw) (N : News h₀ L h nw) (hm : (cB, o) ∈ nw) (hd : o.data = .cell bx) (hd' : o'.data = .cell y) :
    LawSt w cD cB dk ce tb syn k y cs views ((cB, o') :: offA cB nw) := by
  have kp : ∀ q ∈ nw, (∀ x, q.2.data ≠ .cell x) → q ∈ (cB, o') :: offA cB nw := fun q hq hn => .tail _ (off_mem hq (ne_addr N hq hm fun e => hn bx (by rw [e]; exact hd)))
  obtain ⟨cells, ns, c, c2, tk, m1, hi, hl, m2, hlt⟩ := H.deck
  exact ⟨⟨cells, ns, c, c2, tk, kp _ m1 (nc_of rfl), hi, hl, kp _ m2 (nc_of rfl), hlt⟩, H.cd.pick fun q hq e _ => .tail _ (off_mem hq (by rw [e]; exact H.ne)), ⟨o', .head _, hd'⟩, H.tab.pick fun q hq g => kp q hq g.nc,
    H.tp.imp (fun m => kp _ m (nc_of rfl)) fun t => t.pick fun q hq g => kp q hq g.nc, fun z hz => (H.vw z hz).pick fun q hq g => kp q hq g.nc, H.ne⟩
theorem law_st {h₀ h : Heap} {L : Addr} {oD oB o' : Obj} {x0 y0 : Option Value} {ys : List Value} {ns : List Int} {c c2 : Nat} {t : Tok} (N : News h₀ L h nw) (m1 : (ce, listOf ys.toArray c2) ∈ nw) (hi : IntsAre ys ns) (hl : ys.length ≤ 40) (m2 : (dk, listOf [.ref ce, .int 0 t].toArray c) ∈ nw) (hlt : @LT.lt Nat _ ce dk)
    (mD : (cD, oD) ∈ nw) (dD : oD.data = .cell x0) (mB : (cB, oB) ∈ nw) (dB : oB.data = .cell y0) (hne : cD ≠ cB) (mT : (736, tabObj #[]) ∈ nw) (ht : TableIn w nw tb syn) (d' : o'.data = .cell (some (.ref dk))) :
    LawSt w cD cB dk ce tb syn 0 y0 cs [] ((cD, o') :: offA cD nw) := by
  have kp : ∀ q ∈ nw, (∀ x, q.2.data ≠ .cell x) → q ∈ (cD, o') :: offA cD nw := fun q hq hn => .tail _ (off_mem hq (ne_addr N hq mD fun e => hn x0 (by rw [e]; exact dD)))
  exact ⟨⟨ys, ns, c, c2, t, kp _ m1 (nc_of rfl), hi, hl, kp _ m2 (nc_of rfl), hlt⟩, ⟨o', .head _, d'⟩, ⟨oB, .tail _ (off_mem mB (Ne.symm hne)), dB⟩, ht.pick fun q hq g => kp q hq g.nc, .inl (kp _ mT (nc_of rfl)), (fun _ h => nomatch h), hne⟩
end
theorem pickN {h₀ h : Heap} {L a : Addr} {o : Obj} {nw : Led} (N : News h₀ L h nw) (hm : (a, o) ∈ nw) : News h₀ L h ((a, o) :: offA a nw) := fun q hq => by
  rcases List.mem_cons.mp hq with rfl | hq
  · exact N _ hm
  · exact N _ (off_sub hq)
theorem LawSt.views_ {w : World} {cD cB dk ce tb : Addr} {syn : Kd → Addr} {k : Int} {bx : Option Value} {cs cs' : List Int} {vs vs' : List (Addr × Int)} {nw : Led} (h : LawSt w cD cB dk ce tb syn k bx cs vs nw) (hv : ∀ z ∈ vs', ViewIn nw z.1 cs' z.2) : LawSt w cD cB dk ce tb syn k bx cs' vs' nw :=
  ⟨h.deck, h.cd, h.cb, h.tab, h.tp, hv, h.ne⟩
inductive DrawT (nw W : Led) (dk ce : Addr) (k many : Int) (r : Value) (n' : Led) : Prop where
  | mk (nw' : Led) (q1 : DrawR nw dk ce k many r nw') (q2 : ∀ q ∈ nw', q ∈ n') (q3 : ∀ q ∈ W, q.1 ≠ dk → q ∈ n') (q4 : ∀ q ∈ nw', ∃ q0 ∈ nw, q0.1 = q.1)
@[elab_as_elim]
theorem DrawT.open {P : Value → Prop} {nw W n' : Led} {dk ce : Addr} {k many : Int} {r : Value} (h : DrawT nw W dk ce k many r n') (kk : ∀ v t nw', DrawR nw dk ce k many (.int v t) nw' → 0 ≤ v → v < many → (∀ q ∈ nw', q ∈ n') → (∀ q ∈ W, q.1 ≠ dk → q ∈ n') → (∀ q ∈ nw', ∃ q0 ∈ nw, q0.1 = q.1) → P (.int v t)) : P r := by
  obtain ⟨nw', hd, h1, h2, h3⟩ := h
  obtain ⟨v, t, rfl, a, b, _, _, _⟩ := id hd
  exact kk v t nw' hd a b h1 h2 h3
@[elab_as_elim]
theorem DrawR.open {P : Value → Prop} {nw n' : Led} {dk ce : Addr} {k many : Int} {r : Value} (h : DrawR nw dk ce k many r n') (kk : ∀ v t, 0 ≤ v → v < many → P (.int v t)) : P r := by
  obtain ⟨v, t, rfl, a, b, _, _, _⟩ := h
  exact kk v t a b
theorem draw_turn {w : World} {nw W : Led} {dk ce : Addr} {k many : Int} {t : Tok} (h : DeckIn nw dk ce k) (hW : ∀ q ∈ nw, q ∈ W) (hm : 0 < many) (hm2 : many ≤ 100) (h0 : 0 ≤ k) (h1 : k ≤ 100) : GivesU w 715 1 [.ref dk, .int many t] W (DrawT nw W dk ce k many) := by
  obtain ⟨cells, ns, c, c2, tk, m1, hi, hl, m2, hlt⟩ := h
  refine ⟨fun p loose mean mg mb dp un gd cn cs a ccd cl outer A₀ base h₀ L m s Q E B F X N T hk hd hu hret => ?_⟩
  refine (draw_ok (rest := offA dk W) (many := many) (t := t) (c := c) (tk := tk) (c2 := c2) hi hl hm hm2 h0 h1 hlt off_ne).run p loose mean mg mb dp un gd cn cs a ccd cl outer A₀ base h₀ L m s Q E B F X
    (fun q hq => N q ?_) T hk hd hu fun r n' h' tk' hR F' N' => ?_
  · rcases List.mem_cons.mp hq with rfl | hq
    · exact hW _ m1
    · rcases List.mem_cons.mp hq with rfl | hq
      · exact hW _ m2
      · exact off_sub hq
  · obtain ⟨v, t2, tk2, c', rfl, h0', h1', rfl⟩ := hR
    have hk2 : ∀ q ∈ nw, notDk q.2 = true → q.1 ≠ dk := fun q hq hn => ne_addr N (hW q hq) (hW _ m2) (notDk_ne hn _ _ _)
    refine hret _ _ h' tk' ⟨(ce, listOf cells.toArray c2) :: (dk, listOf [.ref ce, .int (k + 1) tk2].toArray c') :: offA dk nw,
      ⟨v, t2, rfl, h0', h1', ⟨cells, ns, c', c2, tk2, .head _, hi, hl, .tail _ (.head _), hlt⟩, fun q hq hn => .tail _ (.tail _ (off_mem hq (hk2 q hq hn))), fun q hq => ?_⟩, fun q hq => ?_, fun q hq hn => .tail _ (.tail _ (off_mem hq hn)), fun q hq => ?_⟩ F' N'
    · rcases List.mem_cons.mp hq with rfl | hq
      · exact .inr rfl
      · rcases List.mem_cons.mp hq with rfl | hq
        · exact .inr rfl
        · exact .inl (off_sub hq)
    · rcases List.mem_cons.mp hq with rfl | hq
      · exact .head _
      · rcases List.mem_cons.mp hq with rfl | hq
        · exact .tail _ (.head _)
        · exact .tail _ (.tail _ (off_mem (hW _ (off_sub hq)) (off_ne q hq)))
    · rcases List.mem_cons.mp hq with rfl | hq
      · exact ⟨_, m1, rfl⟩
      · rcases List.mem_cons.mp hq with rfl | hq
        · exact ⟨_, m2, rfl⟩
        · exact ⟨q, off_sub hq, rfl⟩
section
variable {prog : Program} {w : World} {A : Around} {E : Value → Shared → Prop} {s : Shared} {h₀ : Heap} {L : Addr} {m : Str → Option Value} {env : Env}
def TurnJ (h₀ : Heap) (L : Addr) (m : Str → Option Value) (s : Shared) (I : Addr) (oI : Obj) (C : Addr) (oC : Obj) (D : Addr) (oD : Obj) (J : Value → Led → Prop) (y : Value) (s₂ : Shared) : Prop :=
  ∃ h' tk' nw', s₂ = { s with heap := h', toks := tk' } ∧ Fr h₀ L h' m ∧ News h₀ L h' ((I, oI) :: (C, oC) :: (D, oD) :: nw') ∧ (∀ p ∈ nw', p.1 ≠ I ∧ p.1 ≠ C ∧ p.1 ≠ D) ∧ J y nw'
theorem TurnJ.intro {I C D : Addr} {oI oC oD : Obj} {J : Value → Led → Prop} {y : Value} {h' : Heap} {tk : Nat} {nw' : Led} (F : Fr h₀ L h' m) (N : News h₀ L h' ((I, oI) :: (C, oC) :: (D, oD) :: nw')) (off : ∀ p ∈ nw', p.1 ≠ I ∧ p.1 ≠ C ∧ p.1 ≠ D) (hJ : J y nw') :
    TurnJ h₀ L m s I oI C oC D oD J y { s with heap := h', toks := tk } := ⟨_, _, _, rfl, F, N, off, hJ⟩
theorem comp_J {elt : Expr} {x : Str} {scope : Scope} {cl : List (Str × Addr)} {S : Led → Prop} {P : Nat → Value → Prop} {Fin : List Value → Led → Prop} {news : Led} {n : Nat} (J : Nat → List Value → Led → Prop) (hS : ∀ i ys nw, J i ys nw → S nw)
    (turn : ∀ i v I oI C oC D m₂ ys nw h tk (E' : Value → Shared → Prop), i < n → J i ys nw → P i v → LCg.NsObj oC m₂ → m₂ x = some v → Fr h₀ L h m → News h₀ L h ((I, oI) :: (C, oC) :: (D, LCg.lst ys) :: nw) → (∀ p ∈ nw, p.1 ≠ I ∧ p.1 ≠ C ∧ p.1 ≠ D) →
      wpAny (model prog w) A (eval elt (compEnvC scope cl C env)) (TurnJ h₀ L m s I oI C oC D (LCg.lst ys) fun y nw' => J (i + 1) (ys ++ [y]) nw') E' { s with heap := h, toks := tk })
    (h0 : J 0 [] news) (fin : ∀ ys nw, J n ys nw → Fin ys nw) : LCg.CompRest prog w A h₀ L m env elt x scope cl s S P Fin n 0 [] news := by
  have key : ∀ (j i : Nat) (ys : List Value) (nw : Led), i + j = n → J i ys nw → LCg.CompRest prog w A h₀ L m env elt x scope cl s S P Fin j i ys nw := by
    intro j
    induction j with
    | zero => intro i ys nw hi hy; exact LCg.CompRest.zero (fin ys nw (by rw [← show i = n by omega]; exact hy))
    | succ j ih =>
      intro i ys nw hi hy
      refine LCg.CompRest.succ ?_
      intro v I oI C oC D m₂ h tk E' hv hC hx F N off ne
      refine wpAny_mono (turn i v I oI C oC D m₂ ys nw h tk E' (by omega) hy hv hC hx F N off.mem) (fun y s₂ hq => ?_) fun _ _ e => e
      obtain ⟨h', tk', nw', rfl, F', N', off', hy'⟩ := hq
      exact ⟨h', tk', nw', rfl, F', N', LCg.Off3.of off', hS _ _ _ hy', ih (i + 1) _ _ (by omega) hy'⟩
  exact key n 0 [] news (by omega) h0
end
def AnsQ (nw : Led) (xs : List An) (r : Value) (n' : Led) : Prop := ∃ l vs c, r = .ref l ∧ (l, listOf vs.toArray c) ∈ n' ∧ AnsIn n' vs xs ∧ (∀ q ∈ nw, q.2 ≠ tabObj #[] → q ∈ n') ∧ TabFull n'
@[elab_as_elim]
theorem AnsQ.open {P : Value → Prop} {nw n' : Led} {xs : List An} {r : Value} (h : AnsQ nw xs r n') (kk : ∀ l vs c, (l, listOf (vs : List Value).toArray c) ∈ n' → AnsIn n' vs xs → (∀ q ∈ nw, q.2 ≠ tabObj #[] → q ∈ n') → TabFull n' → P (.ref l)) : P r := by
  obtain ⟨l, vs, c, rfl, h1, h2, h3, h4⟩ := h
  exact kk l vs c h1 h2 h3 h4
theorem answers_any {w : World} {nw : Led} {v tb : Addr} {cs : List Int} {p x n e : Int} {syn : Kd → Addr} {t t2 t3 : Tok} (hv : ViewIn nw v cs p) (ht : TableIn w nw tb syn) (hg : Sgns cs) (h0 : p ≤ x) (h1 : x ≤ p + cs.length) (tp : (736, tabObj #[]) ∈ nw ∨ TabFull nw) :
    GivesC w 741 24 [.ref v, .ref tb, .int x t, .int n t2, .int e t3] nw (AnsQ nw (ansL cs p (x - p).toNat n e)) := by
  refine ⟨fun pF loF meF mgF mbF dp un gd cn csF a ccd cl outer A₀ base h₀ L m s Q E B F X N T XB TB CB D hk hd hu hret => ?_⟩
  rcases tp with tp | tp
  · have kp : ∀ q ∈ nw, q.2 ≠ tabObj #[] → q ∈ offA 736 nw := fun q hq hn => off_mem hq (ne_addr N hq tp hn)
    refine (answers_first (t := t) (t2 := t2) (t3 := t3) (n := n) (e := e) (hv.pick fun q hq g => kp q hq g.tab) (ht.pick fun q hq g => kp q hq g.tab) hg h0 h1 off_ne).run pF loF meF mgF mbF dp un gd cn csF a ccd cl outer A₀ base h₀ L m s Q E B F X (pickN N tp) T XB TB CB D hk hd hu
      fun r n' h' tk' h₁ hR T₁ F₁ N₁ B₁ X₁ P₁ D₁ => ?_
    obtain ⟨l, vs, c, rfl, m1, ha, hs, hf⟩ := hR
    exact hret _ _ h' tk' h₁ ⟨l, vs, c, rfl, m1, ha, fun q hq hn => hs q (kp q hq hn), hf⟩ T₁ F₁ N₁ B₁ X₁ P₁ D₁
  · refine (answers_hit (t := t) (t2 := t2) (t3 := t3) (n := n) (e := e) hv ht hg h0 h1 tp).run pF loF meF mgF mbF dp un gd cn csF a ccd cl outer A₀ base h₀ L m s Q E B F X N T XB TB CB D hk hd hu
      fun r n' h' tk' h₁ hR T₁ F₁ N₁ B₁ X₁ P₁ D₁ => ?_
    obtain ⟨l, vs, c, rfl, m1, ha, hs, hf⟩ := hR
    exact hret _ _ h' tk' h₁ ⟨l, vs, c, rfl, m1, ha, fun q hq _ => hs q hq, hf⟩ T₁ F₁ N₁ B₁ X₁ P₁ D₁

theorem item_sign {x : Str} {i : Int} (h1 : 0 ≤ i) (h2 : i < x.length) : ∃ c, Txt.item x i = ⟨#[c]⟩ ∧ x.cps[i.toNat]? = some c := by
  have hl : i.toNat < x.cps.size := by
    have : x.length = x.cps.size := rfl
    omega
  refine ⟨x.cps[i.toNat], ?_, Array.getElem?_eq_getElem hl⟩
  have e : Txt.charAt x i = some x.cps[i.toNat] := by
    have hx : x.length = x.cps.size := rfl
    unfold Txt.charAt seqIndex?
    simp only [if_neg (show ¬ i < 0 by omega)]
    rw [if_pos (by simp only [Bool.and_eq_true, decide_eq_true_eq]; omega)]
    exact Array.getElem?_eq_getElem hl
  unfold Txt.item
  rw [e]
  rfl
section
variable {prog : Program} {w : World} {A : Around} {E : Value → Shared → Prop} {s : Shared} {value slice : Expr} {x : Str} {t : Tok} {Q : Value → Shared → Prop}
theorem item8 {i : Int} {u : Tok} (h1 : 0 ≤ i) (h2 : i < x.length) (hx : x.length ≤ 100) (h : ∀ c, c ∈ x.cps.toList → Q (.str ⟨#[c]⟩ s.toks) { s with toks := s.toks + 1 })
    (hs : subscripted slice false (.str x t) (.int i u) = operate [.str x t, .int i u] (getItem (.str x t) (.int i u)) := by with_unfolding_all rfl)
    (ht : ∀ r, letTemporaryGo value (.str x t) r = pure () := by intro _; with_unfolding_all rfl) :
    wpAny (model prog w) A (subscriptTail value slice (.str x t) (.int i u)) Q E s :=
  PyProof.Rows.item_str (fitsSsize_of (N := 9223372036854775808) (by omega) (by omega) (Int.le_refl _)) (by omega) h2 (fun _ => by
    obtain ⟨c, e, hc⟩ := item_sign h1 h2
    rw [e]
    exact h c (Array.mem_toList_iff.mpr (Array.mem_of_getElem? hc))) hs ht
end
theorem sgn8 {c : Nat} (h : c ∈ (Str.ofString "ab( )\n\t_").cps.toList) : Sgn (c : Int) := by
  rw [show (Str.ofString "ab( )\n\t_").cps.toList = [97, 98, 40, 32, 41, 10, 9, 95] from by decide +kernel] at h
  exact (by decide : ∀ c : Nat, c ∈ [97, 98, 40, 32, 41, 10, 9, 95] → (c : Int) = 97 ∨ (c : Int) = 98 ∨ (c : Int) = 95 ∨ (c : Int) = 32 ∨ (c : Int) = 10 ∨ (c : Int) = 9 ∨ (c : Int) = 40 ∨ (c : Int) = 41) c h
theorem anOut_mv {p b : Int} {o : Out} : (anOut p o).mv b = anOut (p + b) o := by
  cases o with
  | «at» i => show An.at _ = An.at _; congr 1; omega
  | off => rfl
  | ends g i => show An.bad _ _ _ = An.bad _ _ _; congr 1 <;> omega
  | unb g i => show An.bad _ _ _ = An.bad _ _ _; congr 1 <;> omega
theorem ansL_mv {cs : List Int} {p b n e : Int} {i : Nat} : (ansL cs p i n e).map (An.mv b) = ansL cs (p + b) i n e := by
  unfold ansL
  simp only [List.map_cons, List.map_nil, anOut_mv, List.cons.injEq, and_true]
  refine ⟨?_, ?_, ?_, ?_⟩
  · show An.pb _ _ = An.pb _ _; exact congrArg (fun z => An.pb z _) (Int.add_right_comm _ _ _)
  · show An.pi _ _ = An.pi _ _; exact congrArg (fun z => An.pi z _) (Int.add_right_comm _ _ _)
  · show An.at _ = An.at _; exact congrArg An.at (Int.add_right_comm _ _ _)
  · show An.at _ = An.at _; exact congrArg An.at (Int.add_right_comm _ _ _)
noncomputable def An.ok : An → Prop
  | .bad msg _ _ => PyData.strOk msg = true
  | _ => True
theorem An.lay {x : An} (h : x.ok) : x.data.canLay0 = true ∧ x.data.depth ≤ 3 := by
  have h1 : PyData.strOk sTold = true := by decide +kernel
  have h2 : PyData.strOk sRef = true := by decide +kernel
  have h3 : PyData.strOk sScan = true := by decide +kernel
  cases x with
  | bad msg g n =>
    have h4 : PyData.strOk msg = true := h
    simp [An.data, PyData.canLay0, PyData.canLayAll0, PyData.depth, PyData.depthAll]
    exact ⟨h2, h3, h4⟩
  | _ => simp [An.data, PyData.canLay0, PyData.canLayAll0, PyData.depth, PyData.depthAll]; exact h1
theorem lay_all : ∀ {xs : List An}, (∀ x ∈ xs, x.ok) → PyData.canLayAll0 (xs.map An.data) = true ∧ PyData.depthAll (xs.map An.data) ≤ 3
  | [], _ => ⟨rfl, Nat.zero_le _⟩
  | x :: xs, h => by
    obtain ⟨a, b⟩ := lay_all (xs := xs) fun y hy => h y (.tail _ hy)
    obtain ⟨c, d⟩ := An.lay (h x (.head _))
    rw [List.map_cons, PyData.canLayAll0, PyData.depthAll, a, c]
    exact ⟨rfl, by omega⟩
theorem ansL_ok {cs : List Int} {p n e : Int} {i : Nat} : ∀ x ∈ ansL cs p i n e, x.ok := by
  have h1 : PyData.strOk sEnds = true := by decide +kernel
  have h2 : PyData.strOk sUnb = true := by decide +kernel
  unfold ansL
  refine List.forall_mem_cons.mpr ⟨trivial, List.forall_mem_cons.mpr ⟨trivial, List.forall_mem_cons.mpr ⟨trivial, List.forall_mem_cons.mpr ⟨trivial, List.forall_mem_cons.mpr ⟨?_, fun _ h => nomatch h⟩⟩⟩⟩⟩
  cases scG cs i n e with
  | «at» i => trivial
  | off => trivial
  | ends g i => exact h1
  | unb g i => exact h2
theorem an_reads {h₀ h : Heap} {L : Addr} {nw : Led} {v : Value} {x : An} (N : News h₀ L h nw) (hx : AnIn nw v x) : ∃ as, Reads h v x.data as := by
  cases x with
  | pb i b => obtain ⟨a, tp, t, t2, c, rfl, m1, m2⟩ := hx; exact ⟨_, .list (N _ m1).1 rfl rfl (.cons (.str _ _) (.cons (.tuple (N _ m2).1 rfl rfl (.cons (.int _ _) (.cons (.bool _) .nil))) .nil))⟩
  | pi i j => obtain ⟨a, tp, t, t2, t3, c, rfl, m1, m2⟩ := hx; exact ⟨_, .list (N _ m1).1 rfl rfl (.cons (.str _ _) (.cons (.tuple (N _ m2).1 rfl rfl (.cons (.int _ _) (.cons (.int _ _) .nil))) .nil))⟩
  | «at» i => obtain ⟨a, t, t2, c, rfl, m1⟩ := hx; exact ⟨_, .list (N _ m1).1 rfl rfl (.cons (.str _ _) (.cons (.int _ _) .nil))⟩
  | off => obtain ⟨a, t, c, rfl, m1⟩ := hx; exact ⟨_, .list (N _ m1).1 rfl rfl (.cons (.str _ _) (.cons .none .nil))⟩
  | bad msg g n => obtain ⟨a, lst, t, t0, t1, t2, t3, c, c2, rfl, m1, m2⟩ := hx; exact ⟨_, .list (N _ m1).1 rfl rfl (.cons (.str _ _) (.cons (.str _ _) (.cons (.list (N _ m2).1 rfl rfl (.cons (.str _ _) (.cons (.int _ _) (.cons (.int _ _) .nil)))) .nil)))⟩
theorem ans_reads {h₀ h : Heap} {L : Addr} {nw : Led} (N : News h₀ L h nw) : ∀ {vs : List Value} {xs : List An}, AnsIn nw vs xs → ∃ as, ReadsAll h vs (xs.map An.data) as
  | _, _, .nil => ⟨_, .nil⟩
  | _, _, .cons h t => by
    obtain ⟨as, r⟩ := an_reads N h
    obtain ⟨bs, rs⟩ := ans_reads N t
    exact ⟨_, .cons r rs⟩
section
variable {prog : Program} {w : World} {A : Around} {E : Value → Shared → Prop} {s : Shared} {Q : Value → Shared → Prop} {h₀ : Heap} {L : Addr} {nw : Led}
theorem ne_answers {l l' : Addr} {vs vs' : List Value} {c c' : Nat} {xs xs' : List An} (N : News h₀ L s.heap nw) (m1 : (l, listOf vs.toArray c) ∈ nw) (m2 : (l', listOf vs'.toArray c') ∈ nw) (h1 : AnsIn nw vs xs) (h2 : AnsIn nw vs' xs')
    (e : xs = xs') (ho : ∀ x ∈ xs, x.ok) (hu : A.units + 64 < cLine) (h : Q (.bool false) s) : wpAny (model prog w) A (compareOp .NotEq (.ref l) (.ref l')) Q E s := by
  subst e
  obtain ⟨as, r1⟩ := ans_reads N h1
  obtain ⟨bs, r2⟩ := ans_reads N h2
  obtain ⟨q1, q2⟩ := lay_all ho
  have hsh : SeqAt.shaped (.list (xs.map An.data)) = true := by
    unfold SeqAt.shaped
    rw [PyData.canLay0, PyData.depth, q1]
    exact decide_eq_true (by omega)
  refine ne_dataH (da := .list (xs.map An.data)) (db := .list (xs.map An.data)) (.list (N _ m1).1 rfl rfl r1) (.list (N _ m2).1 rfl rfl r2) hsh hsh hu ?_
  rw [SeqAt.eqv_refl _ (SeqAt.canLay_of_shaped hsh)]
  exact h
end

theorem notIt_lst {vs : List Value} {n : Nat} : NotIt (listOf vs.toArray n) := .inl ⟨by simp, by simp⟩
theorem notIt_tab {ps : Array Value} : NotIt (tabObj ps) := .inl ⟨by nofun, by nofun⟩
theorem notIt_cell {o : Obj} {x : Option Value} (h : o.data = .cell x) : NotIt o := .inr (.inl ⟨x, h⟩)
noncomputable abbrev onesOf (l : List Nat) : List Str := l.map fun k => (⟨#[k]⟩ : Str)
def SigJ (w : World) (cD cB dk ce tb : Addr) (syn : Kd → Addr) (bx : Option Value) (i : Nat) (ys : List Value) (nw : Led) : Prop :=
  ∃ l : List Nat, StrsAre ys (onesOf l) ∧ l.length = i ∧ (∀ c ∈ l, Sgn (c : Int)) ∧ LawSt w cD cB dk ce tb syn (i : Int) bx [] [] nw
theorem SigJ.open {P : Prop} {w : World} {cD cB dk ce tb : Addr} {syn : Kd → Addr} {bx : Option Value} {i : Nat} {ys : List Value} {nw : Led} (h : SigJ w cD cB dk ce tb syn bx i ys nw)
    (kk : ∀ l : List Nat, StrsAre ys (onesOf l) → l.length = i → (∀ c ∈ l, Sgn (c : Int)) → LawSt w cD cB dk ce tb syn (i : Int) bx [] [] nw → P) : P := ex4 h kk
theorem rng16 (n : Nat) : 0 ≤ (if 4 + (n : Int).fdiv 2 < 16 then 4 + (n : Int).fdiv 2 else 16) ∧ (if 4 + (n : Int).fdiv 2 < 16 then 4 + (n : Int).fdiv 2 else 16) ≤ 16 := by
  rw [Int.fdiv_eq_ediv_of_nonneg _ (by decide : (0 : Int) ≤ 2)]
  split <;> omega
theorem turn_fin {h₀ h : Heap} {L I C D dk ce : Addr} {oI oC oD : Obj} {k : Int} {nw nw' n' : Led} (N : News h₀ L h n') (hd : DeckIn nw dk ce k) (off : ∀ p ∈ nw, p.1 ≠ I ∧ p.1 ≠ C ∧ p.1 ≠ D)
    (h1 : ∀ q ∈ nw', q ∈ n') (h2 : ∀ q ∈ (I, oI) :: (C, oC) :: (D, oD) :: nw, q.1 ≠ dk → q ∈ n') (h3 : ∀ q ∈ nw', ∃ q0 ∈ nw, q0.1 = q.1) :
    News h₀ L h ((I, oI) :: (C, oC) :: (D, oD) :: nw') ∧ ∀ p ∈ nw', p.1 ≠ I ∧ p.1 ≠ C ∧ p.1 ≠ D := by
  obtain ⟨cells, ns, c, c2, tk, m1, hi, hl, m2, hlt⟩ := hd
  obtain ⟨e1, e2, e3⟩ := off _ m2
  refine ⟨fun q hq => ?_, fun p hp => ?_⟩
  · rcases List.mem_cons.mp hq with rfl | hq
    · exact N _ (h2 _ (.head _) (Ne.symm e1))
    · rcases List.mem_cons.mp hq with rfl | hq
      · exact N _ (h2 _ (.tail _ (.head _)) (Ne.symm e2))
      · rcases List.mem_cons.mp hq with rfl | hq
        · exact N _ (h2 _ (.tail _ (.tail _ (.head _))) (Ne.symm e3))
        · exact N _ (h1 _ hq)
  · obtain ⟨q0, hq0, e⟩ := h3 p hp
    rw [← e]
    exact off q0 hq0
section
variable {prog : Program} {w : World} {A : Around} {h₀ : Heap} {L : Addr} {m : Str → Option Value} {env : Env}
theorem src16 {elt : Expr} {x : Str} {scope : Scope} {cl : List (Str × Addr)} {Fin : Shared → List Value → Led → Prop} {r : Addr} {b : Int} {t u v : Tok} {news : Led} {s₁ : Shared}
    (hh : A.handled = none) (F : Fr h₀ L s₁.heap m) (N : News h₀ L s₁.heap news) (hr : IsRange s₁.heap r 0 b 1 t u v) (hb : 0 ≤ b ∧ b ≤ 16)
    (h : ∀ g (n : Nat), n ≤ 16 → LCg.CompRest prog w A h₀ L m env elt x scope cl { s₁ with heap := g } (fun _ => True) (fun i v => ∃ t, v = .int (0 + (i : Int)) t) (Fin { s₁ with heap := g }) n 0 [] news) :
    LCg.CompSrc prog w A h₀ L m env elt x scope cl Fin (.ref r) s₁ :=
  LCg.CompSrc.range hh F N hr (small_one (by omega) (by omega) (by omega) (by omega)) (rangeSize_nat _ _) (by rw [PySem.sizeLine_eq]; omega) fun g => h g _ (by omega)
end

theorem ones_len : ∀ (l : List Nat), ((onesOf l).map (·.length)).sum = l.length
  | [] => rfl
  | k :: l => by
    have ih := ones_len l
    rw [List.length_cons, ← ih]
    show (⟨#[k]⟩ : Str).length + _ = _
    rw [Nat.add_comm]
    rfl
theorem sgs_size {x : Str} : (sgsOf x).length = x.cps.size := by
  unfold sgsOf
  rw [List.length_map, Array.length_toList]
theorem sgs_codes {x : Str} {i : Int} {c : Nat} (h0 : 0 ≤ i) (h : x.cps[i.toNat]? = some c) : codeR (sgsOf x) i = (c : Int) := by
  have hl : i.toNat < x.cps.size := by
    obtain ⟨q, _⟩ := Array.getElem?_eq_some_iff.mp h
    exact q
  have hx := sgs_size (x := x)
  unfold codeR
  rw [if_pos (by omega), List.getD_eq_getElem?_getD]
  unfold sgsOf
  rw [List.getElem?_map, Array.getElem?_toList, h]
  rfl
theorem code_off {cs : List Int} {i : Int} (h : ¬ (0 ≤ i ∧ i < cs.length)) : codeR cs i = -1 := if_neg h
section
variable {prog : Program} {w : World} {A : Around} {E : Value → Shared → Prop} {s : Shared} {value slice : Expr} {x : Str} {t : Tok} {Q : Value → Shared → Prop}
theorem join_signs {D : Addr} {ys : List Value} {l : List Nat} {n : Nat} (hl : s.heap.IsList D ys.toArray) (hi : StrsAre ys (onesOf l)) (he : l.length = n) (hn : n ≤ 16) (hg : ∀ c ∈ l, Sgn (c : Int))
    (h : ∀ x t' k, x.cps.size = n → Sgns (sgsOf x) → Q (.str x t') { s with toks := k }) : wpAny (model prog w) A (call (.builtin "str.join") [.str (Str.ofString "") t, .ref D]) Q E s :=
  join_list hl (by simpa using hi) (by
    rw [ones_len]
    have : (Str.ofString "").length = 0 := by decide
    rw [this]
    omega) fun t' k => by
    have e : Txt.join (Str.ofString "") (onesOf l) = ⟨l.toArray⟩ := (StrLaws.glued_eq_join _ _).trans (join_ones l)
    rw [e]
    refine h _ t' k (by simpa using he) fun c hc => ?_
    unfold sgsOf at hc
    obtain ⟨k, hk, rfl⟩ := List.mem_map.mp hc
    exact hg k (by simpa using hk)
theorem itemC {i : Int} {u : Tok} (h1 : 0 ≤ i) (h2 : i < x.length) (hx : x.length ≤ 100) (h : ∀ c : Nat, codeR (sgsOf x) i = (c : Int) → Q (.str ⟨#[c]⟩ s.toks) { s with toks := s.toks + 1 })
    (hs : subscripted slice false (.str x t) (.int i u) = operate [.str x t, .int i u] (getItem (.str x t) (.int i u)) := by with_unfolding_all rfl)
    (ht : ∀ r, letTemporaryGo value (.str x t) r = pure () := by intro _; with_unfolding_all rfl) :
    wpAny (model prog w) A (subscriptTail value slice (.str x t) (.int i u)) Q E s :=
  PyProof.Rows.item_str (fitsSsize_of (N := 9223372036854775808) (by omega) (by omega) (Int.le_refl _)) (by omega) h2 (fun _ => by
    obtain ⟨c, e, hc⟩ := item_sign h1 h2
    rw [e]
    exact h c (sgs_codes h1 hc)) hs ht
end
theorem moved_turn {h₀ h : Heap} {L I C D : Addr} {oI oC oD : Obj} {p : Int} {x : An} {r : Value} {nw n' : Led} (N : News h₀ L h n') (R : MovR p x ((I, oI) :: (C, oC) :: (D, oD) :: nw) r n') (off : ∀ q ∈ nw, q.1 ≠ I ∧ q.1 ≠ C ∧ q.1 ≠ D) :
    ∃ nw', News h₀ L h ((I, oI) :: (C, oC) :: (D, oD) :: nw') ∧ (∀ q ∈ nw', q.1 ≠ I ∧ q.1 ≠ C ∧ q.1 ≠ D) ∧ (∀ q ∈ nw, q ∈ nw') ∧ AnIn nw' r (x.mv p) := by
  obtain ⟨hs, own, ha, ho, hf⟩ := R
  refine ⟨own ++ nw, fun q hq => N q ?_, fun q hq => ?_, fun q hq => List.mem_append_right _ hq, ha.mono fun q hq => List.mem_append_left _ hq⟩
  · rcases List.mem_cons.mp hq with rfl | hq
    · exact hs _ (.head _)
    · rcases List.mem_cons.mp hq with rfl | hq
      · exact hs _ (.tail _ (.head _))
      · rcases List.mem_cons.mp hq with rfl | hq
        · exact hs _ (.tail _ (.tail _ (.head _)))
        · rcases List.mem_append.mp hq with hq | hq
          · exact ho _ hq
          · exact hs _ (.tail _ (.tail _ (.tail _ hq)))
  · rcases List.mem_append.mp hq with hq | hq
    · exact ⟨Ne.symm (hf q hq _ (.head _)), Ne.symm (hf q hq _ (.tail _ (.head _))), Ne.symm (hf q hq _ (.tail _ (.tail _ (.head _))))⟩
    · exact off q hq
theorem AnsIn.get {nw : Led} {v : Value} : ∀ {vs : List Value} {xs : List An} {i : Nat}, AnsIn nw vs xs → vs[i]? = some v → ∃ x, xs[i]? = some x ∧ AnIn nw v x
  | _, _, 0, .cons h _, e => by obtain rfl := Option.some.inj e; exact ⟨_, rfl, h⟩
  | _, _, i + 1, .cons _ r, e => by
    obtain ⟨x, e', h⟩ := AnsIn.get r (i := i) e
    exact ⟨x, e', h⟩
theorem AnsIn.len {nw : Led} : ∀ {vs : List Value} {xs : List An}, AnsIn nw vs xs → vs.length = xs.length
  | _, _, .nil => rfl
  | _, _, .cons _ r => congrArg (· + 1) r.len
theorem AnsIn.pick {nw nw' : Led} (hs : ∀ q ∈ nw, AnO q.2 → q ∈ nw') : ∀ {vs : List Value} {xs : List An}, AnsIn nw vs xs → AnsIn nw' vs xs
  | _, _, .nil => .nil
  | _, _, .cons h r => .cons (h.pick hs) (AnsIn.pick hs r)
def DueJ (b : Int) (xs : List An) (n4 : Led) (i : Nat) (ys : List Value) (nw : Led) : Prop := (∀ q ∈ n4, q ∈ nw) ∧ AnsIn nw ys ((xs.map (An.mv b)).take i)
theorem due_step {b : Int} {xs : List An} {n4 nw nw' : Led} {i : Nat} {ys : List Value} {x : An} {r : Value} (J : DueJ b xs n4 i ys nw) (hx : xs[i]? = some x) (hs : ∀ q ∈ nw, q ∈ nw') (ha : AnIn nw' r (x.mv b)) : DueJ b xs n4 (i + 1) (ys ++ [r]) nw' := by
  refine ⟨fun q hq => hs q (J.1 q hq), ?_⟩
  rw [List.take_add_one, List.getElem?_map, hx]
  exact AnsIn.snoc ha (J.2.mono hs)
theorem due_end {b : Int} {xs : List An} {n4 nw : Led} {i : Nat} {ys : List Value} (J : DueJ b xs n4 i ys nw) (hi : xs.length = i) : (∀ q ∈ n4, q ∈ nw) ∧ AnsIn nw ys (xs.map (An.mv b)) := by
  obtain ⟨h1, h2⟩ := J
  rw [List.take_of_length_le (by rw [List.length_map]; omega)] at h2
  exact ⟨h1, h2⟩
theorem item8_ {v : Int} (h0 : 0 ≤ v) (h1 : v < 8) : ∃ c, Txt.item (Str.ofString "ab( )\n\t_") v = ⟨#[c]⟩ ∧ c ∈ (Str.ofString "ab( )\n\t_").cps.toList := by
  have e : (Str.ofString "ab( )\n\t_").length = 8 := by decide +kernel
  obtain ⟨c, h, hc⟩ := item_sign (x := Str.ofString "ab( )\n\t_") h0 (by rw [e]; exact h1)
  exact ⟨c, h, Array.mem_toList_iff.mpr (Array.mem_of_getElem? hc)⟩
theorem tab_lst {vs : List Value} {c : Nat} : listOf vs.toArray c ≠ tabObj #[] := nt_of rfl
theorem tab_ano {o : Obj} (h : AnO o) : o ≠ tabObj #[] := fun e => notAnO_tab (e ▸ h)
section
variable {w : World} {cD cB dk ce tb : Addr} {syn : Kd → Addr} {k : Int} {bx : Option Value} {cs : List Int} {views : List (Addr × Int)} {nw nw' : Led}
theorem DeckIn.pick (h : DeckIn nw dk ce k) (hs : ∀ q ∈ nw, (∃ vs c, q.2 = listOf (vs : List Value).toArray c) → q ∈ nw') : DeckIn nw' dk ce k := by
  obtain ⟨cells, ns, c, c2, tk, m1, hi, hl, m2, hlt⟩ := h
  exact ⟨cells, ns, c, c2, tk, hs _ m1 ⟨_, _, rfl⟩, hi, hl, hs _ m2 ⟨_, _, rfl⟩, hlt⟩
theorem LawSt.ans {xs : List An} {r : Value} (h : LawSt w cD cB dk ce tb syn k bx cs views nw) (hR : AnsQ nw xs r nw') : LawSt w cD cB dk ce tb syn k bx cs views nw' := by
  obtain ⟨l, vs, c, _, _, _, hs, hf⟩ := hR
  exact ⟨h.deck.pick fun q hq e => hs q hq (by obtain ⟨vs, c, e⟩ := e; rw [e]; exact tab_lst), h.cd.pick fun q hq _ e => hs q hq (tab_cell e), h.cb.pick fun q hq _ e => hs q hq (tab_cell e), h.tab.pick fun q hq g => hs q hq g.tab, .inr hf, fun z hz => (h.vw z hz).pick fun q hq g => hs q hq g.tab, h.ne⟩
noncomputable def pruneP (q : Addr × Obj) : Bool := @decide (NotIt q.2) (Classical.propDecidable (NotIt q.2))
theorem pruneP_iff {q : Addr × Obj} : pruneP q = true ↔ NotIt q.2 :=
  @decide_eq_true_iff (NotIt q.2) (Classical.propDecidable (NotIt q.2))
noncomputable def prune (nw : Led) : Led := nw.filter pruneP
theorem prune_mem {q : Addr × Obj} (h : q ∈ nw) (hn : NotIt q.2) : q ∈ prune nw := List.mem_filter.mpr ⟨h, pruneP_iff.mpr hn⟩
theorem prune_sub {q : Addr × Obj} (h : q ∈ prune nw) : q ∈ nw := (List.mem_filter.mp h).1
theorem prune_not {q : Addr × Obj} (h : q ∈ prune nw) : NotIt q.2 := pruneP_iff.mp (List.mem_filter.mp h).2
theorem LawSt.prune (h : LawSt w cD cB dk ce tb syn k bx cs views nw) : LawSt w cD cB dk ce tb syn k bx cs views (prune nw) :=
  ⟨h.deck.pick fun q hq e => prune_mem hq (by obtain ⟨vs, c, e⟩ := e; rw [e]; exact notIt_lst), h.cd.pick fun q hq _ e => prune_mem hq (.inr (.inl e)), h.cb.pick fun q hq _ e => prune_mem hq (.inr (.inl e)), h.tab.pick fun q hq g => prune_mem hq g.it,
    h.tp.imp (fun m => prune_mem m notIt_tab) fun t => t.pick fun q hq g => prune_mem hq g.it, fun z hz => (h.vw z hz).pick fun q hq g => prune_mem hq g.it, h.ne⟩
end
theorem prune_news {h₀ h : Heap} {L : Addr} {e : Addr × Obj} {nw : Led} (N : News h₀ L h nw) (he : e ∈ nw) : News h₀ L h (e :: prune nw) := fun q hq => by
  rcases List.mem_cons.mp hq with rfl | hq
  · exact N _ he
  · exact N _ (prune_sub hq)
theorem ints_reads {h : Heap} : ∀ {vs : List Value} {ns : List Int}, IntsAre vs ns → ∃ as, ReadsAll h vs (ns.map PyData.int) as
  | _, _, .nil => ⟨_, .nil⟩
  | _, _, .cons i t r => by
    obtain ⟨as, q⟩ := ints_reads (h := h) r
    exact ⟨_, .cons (.int i t) q⟩
theorem ints_lay : ∀ (ns : List Int), PyData.canLayAll0 (ns.map PyData.int) = true ∧ PyData.depthAll (ns.map PyData.int) ≤ 1
  | [] => ⟨rfl, Nat.zero_le _⟩
  | n :: ns => by
    obtain ⟨a, b⟩ := ints_lay ns
    rw [List.map_cons, PyData.canLayAll0, PyData.depthAll, a]
    refine ⟨rfl, ?_⟩
    have : (PyData.int n).depth ≤ 1 := by simp [PyData.depth]
    omega
section
variable {prog : Program} {w : World} {A : Around} {E : Value → Shared → Prop} {s : Shared} {Q : Value → Shared → Prop} {h₀ : Heap} {L : Addr} {nw : Led}
theorem ne_ints {l l' : Addr} {vs vs' : List Value} {c c' : Nat} {ns ns' : List Int} (N : News h₀ L s.heap nw) (m1 : (l, listOf vs.toArray c) ∈ nw) (m2 : (l', listOf vs'.toArray c') ∈ nw) (h1 : IntsAre vs ns) (h2 : IntsAre vs' ns')
    (e : ns = ns') (hu : A.units + 64 < cLine) (h : Q (.bool false) s) : wpAny (model prog w) A (compareOp .NotEq (.ref l) (.ref l')) Q E s := by
  subst e
  obtain ⟨as, r1⟩ := ints_reads (h := s.heap) h1
  obtain ⟨bs, r2⟩ := ints_reads (h := s.heap) h2
  obtain ⟨q1, q2⟩ := ints_lay ns
  have hsh : SeqAt.shaped (.list (ns.map PyData.int)) = true := by
    unfold SeqAt.shaped
    rw [PyData.canLay0, PyData.depth, q1]
    exact decide_eq_true (by omega)
  refine ne_dataH (da := .list (ns.map PyData.int)) (db := .list (ns.map PyData.int)) (.list (N _ m1).1 rfl rfl r1) (.list (N _ m2).1 rfl rfl r2) hsh hsh hu ?_
  rw [SeqAt.eqv_refl _ (SeqAt.canLay_of_shaped hsh)]
  exact h
end
theorem strs_snoc {y : Str} {t : Tok} : ∀ {vs : List Value} {ys : List Str}, StrsAre vs ys → StrsAre (vs ++ [.str y t]) (ys ++ [y])
  | _, _, .nil => .cons y t .nil
  | _, _, .cons z u r => .cons z u (strs_snoc r)
section
variable {w : World} {cD cB dk ce tb : Addr} {syn : Kd → Addr} {bx : Option Value} {nw nw' : Led}
theorem sig0 (h : LawSt w cD cB dk ce tb syn 0 bx [] [] nw) (hs : ∀ q ∈ nw, q ∈ nw') : SigJ w cD cB dk ce tb syn bx 0 [] nw' := ⟨[], .nil, rfl, (fun _ h => nomatch h), h.mono hs⟩
theorem sig_step {i : Nat} {ys : List Value} {l : List Nat} {many : Int} {r : Value} {c : Nat} {t : Tok} (h1 : StrsAre ys (onesOf l)) (h2 : l.length = i) (h3 : ∀ c ∈ l, Sgn (c : Int)) (h4 : LawSt w cD cB dk ce tb syn (i : Int) bx [] [] nw) (hR : DrawR nw dk ce (i : Int) many r nw')
    (hc : c ∈ (Str.ofString "ab( )\n\t_").cps.toList) : SigJ w cD cB dk ce tb syn bx (i + 1) (ys ++ [.str ⟨#[c]⟩ t]) nw' := by
  refine ⟨l ++ [c], ?_, by rw [List.length_append, h2]; rfl, fun k hk => ?_, h4.draw hR⟩
  · rw [show onesOf (l ++ [c]) = onesOf l ++ [⟨#[c]⟩] from by simp]
    exact strs_snoc h1
  · rcases List.mem_append.mp hk with hk | hk
    · exact h3 k hk
    · rw [List.mem_singleton.mp hk]
      exact sgn8 hc
end
theorem law_rows {w : World} {cD cB dk ce tb : Addr} {syn : Kd → Addr} {k : Int} {bx : Option Value} {cs cs0 : List Int} {h₀ h : Heap} {L a b : Addr} {pa pb : Int} {W0 nA nB : Led} (N : News h₀ L h W0) (H : LawSt w cD cB dk ce tb syn k bx cs0 [] W0) (hA : ViewIn nA a cs pa) (hB : ViewIn nB b cs pb)
    (sA : ∀ q ∈ nA, q ∈ W0) (sB : ∀ q ∈ nB, q ∈ W0) : ∃ W, News h₀ L h W ∧ LawSt w cD cB dk ce tb syn k bx cs [(a, pa), (b, pb)] W ∧ ViewIn W a cs pa ∧ ViewIn W b cs pb ∧ ∀ q ∈ W, NotIt q.2 :=
  have H2 : LawSt w cD cB dk ce tb syn k bx cs [(a, pa), (b, pb)] (prune W0) := LawSt.prune (H.views_ (List.forall_mem_cons.mpr ⟨hA.mono sA, List.forall_mem_cons.mpr ⟨hB.mono sB, fun _ h => nomatch h⟩⟩))
  ⟨prune W0, fun q hq => N q (prune_sub hq), H2, H2.vw _ (.head _), H2.vw _ (.tail _ (.head _)), fun _ h => prune_not h⟩
theorem code_at_y {w : World} {news : Led} {v : Addr} {cs : List Int} {p x : Int} {t : Tok} (y : Int) (hv : ViewIn news v cs p) (e : x - p = y) :
    Gives w 57 1 [.ref v, .int x t] news (IntR (codeR cs y)) := e ▸ code_at_ok hv
structure LawFr (tb a b : Addr) (x : Str) (m : Str → Option Value) : Prop where
  table : m (Str.ofString "table") = some (.ref tb)
  signs : ∃ t, m (Str.ofString "signs") = some (.str x t)
  one : m (Str.ofString "one") = some (.ref a)
  other : m (Str.ofString "other") = some (.ref b)
theorem ldC {M : Model} {A : Around} {E : Value → Shared → Prop} {s : Shared} {h₀ : Heap} {L a : Addr} {m : Str → Option Value} {cn : Str} {ccd : Value} {ns : List (Str × NameKind)} {ig ic : Bool} {mo : List (Str × Const)} {x : String} {pos : Pos} {v : Value} {Q : Value → Shared → Prop}
    (F : Fr h₀ L s.heap m) (hl : ns.lookup (Str.ofString x) = some .local) (hv : m (Str.ofString x) = some v) (hd : x ≠ "__debug__") (h : Q v s) :
    wpAny M A (eval (.Name (Str.ofString x) pos) (envOfC cn { kind := .function, names := ns, isGenerator := ig, isCoroutine := ic, more := mo } L a ccd)) Q E s :=
  wpAny_Name (wpAny_loadName_local rfl hl F.ns hv h) (ofs_beq hd)
theorem ev_ldC {M : Model} {A : Around} {E : Value → Shared → Prop} {s : Shared} {h₀ : Heap} {L a : Addr} {m : Str → Option Value} {cn : Str} {ccd : Value} {ns : List (Str × NameKind)} {ig ic : Bool} {mo : List (Str × Const)} {x : String} {pos : Pos} {v : Value}
    (F : Fr h₀ L s.heap m) (hl : ns.lookup (Str.ofString x) = some .local) (hv : m (Str.ofString x) = some v) (hd : x ≠ "__debug__") :
    Ev M A E s (envOfC cn { kind := .function, names := ns, isGenerator := ig, isCoroutine := ic, more := mo } L a ccd) (.Name (Str.ofString x) pos) v := ⟨fun _ h => ldC F hl hv hd h⟩
theorem ldCell {M : Model} {A : Around} {E : Value → Shared → Prop} {s : Shared} {h₀ : Heap} {L a c : Addr} {cn : Str} {ccd : Value} {ns : List (Str × NameKind)} {ig ic : Bool} {mo : List (Str × Const)} {x : String} {pos : Pos} {v : Value} {nw news : Led}
    (N : News h₀ L s.heap news) (hx : CellAt nw c (some v)) (hs : ∀ q ∈ nw, q ∈ news) (hc : (cellsFrom (L + 1) ns []).lookup (Str.ofString x) = some c) (hl : ns.lookup (Str.ofString x) = some .cell) (h1 : x ≠ "__debug__") :
    Ev M A E s (envOfC cn { kind := .function, names := ns, isGenerator := ig, isCoroutine := ic, more := mo } L a ccd) (.Name (Str.ofString x) pos) v := ⟨fun _ h => hx.open fun _ hm hd => ldCN N hc (hs _ hm) hd h rfl hl (ofs_beq h1)⟩
def TurnSt (w : World) (cD cB dk ce tb : Addr) (syn : Kd → Addr) (bx : Option Value) (cs : List Int) (views : List (Addr × Int)) (i : Nat) (nw : Led) : Prop :=
  (∃ k : Int, 0 ≤ k ∧ k ≤ 17 + 3 * (i : Int) ∧ LawSt w cD cB dk ce tb syn k bx cs views nw) ∧ ∀ q ∈ nw, NotIt q.2
theorem TurnSt.open {P : Prop} {w : World} {cD cB dk ce tb : Addr} {syn : Kd → Addr} {bx : Option Value} {cs : List Int} {views : List (Addr × Int)} {i : Nat} {nw : Led} (h : TurnSt w cD cB dk ce tb syn bx cs views i nw)
    (kk : ∀ k : Int, 0 ≤ k → k ≤ 17 + 3 * (i : Int) → LawSt w cD cB dk ce tb syn k bx cs views nw → (∀ q ∈ nw, NotIt q.2) → P) : P := h.1.elim fun k y => kk k y.1 y.2.1 y.2.2 h.2
theorem turn0 {w : World} {cD cB dk ce tb : Addr} {syn : Kd → Addr} {bx : Option Value} {cs : List Int} {views : List (Addr × Int)} {k : Int} {nw : Led} (h : LawSt w cD cB dk ce tb syn k bx cs views nw) (h0 : 0 ≤ k) (h1 : k ≤ 17) (hn : ∀ q ∈ nw, NotIt q.2) :
    TurnSt w cD cB dk ce tb syn bx cs views 0 nw := ⟨⟨k, h0, by omega, h⟩, hn⟩
theorem turn_next {w : World} {cD cB dk ce tb : Addr} {syn : Kd → Addr} {bx : Option Value} {cs : List Int} {views : List (Addr × Int)} {k : Int} {i : Nat} {nw : Led} (h : LawSt w cD cB dk ce tb syn k bx cs views nw) (h0 : 0 ≤ k) (h1 : k ≤ 17 + 3 * ((i : Int) + 1)) :
    TurnSt w cD cB dk ce tb syn bx cs views (i + 1) (Mine.prune nw) := ⟨⟨k, h0, by omega, h.prune⟩, fun _ h => prune_not h⟩
theorem column_y {w : World} {news : Led} {v : Addr} {cs : List Int} {p x : Int} {t t2 : Tok} (y : Nat) (hv : ViewIn news v cs p) (h0 : p ≤ x) (h1 : x ≤ p + cs.length) (e : (x - p).toNat = y) :
    Gives w 112 3 [.ref v, .int x t, .int 8 t2] news (IntR (colF cs y)) := e ▸ column_at_ok hv h0 h1
theorem answers_y {w : World} {nw : Led} {v tb : Addr} {cs : List Int} {p x n e : Int} {syn : Kd → Addr} {t t2 t3 : Tok} (y : Nat) (hv : ViewIn nw v cs p) (ht : TableIn w nw tb syn) (hg : Sgns cs) (h0 : p ≤ x) (h1 : x ≤ p + cs.length) (tp : (736, tabObj #[]) ∈ nw ∨ TabFull nw) (e' : (x - p).toNat = y) :
    GivesC w 741 24 [.ref v, .ref tb, .int x t, .int n t2, .int e t3] nw (AnsQ nw (ansL cs p y n e)) := e' ▸ answers_any hv ht hg h0 h1 tp
theorem DeckIn.off {h₀ h : Heap} {L I : Addr} {oI : Obj} {nw W : Led} {dk ce : Addr} {k : Int} (H : DeckIn nw dk ce k) (N : News h₀ L h W) (hI : (I, oI) ∈ W) (hs : ∀ q ∈ nw, q ∈ W) (hc : oI.cls = .type "range_iterator") : I ≠ dk := by
  obtain ⟨cells, ns, c, c2, tk, m1, hi, hl, m2, hlt⟩ := H
  exact ne_addr N hI (hs _ m2) fun e => by
    rw [e] at hc
    simp at hc
theorem LawSt.grown {w : World} {cD cB dk ce tb : Addr} {syn : Kd → Addr} {bx : Option Value} {cs : List Int} {views : List (Addr × Int)} {k : Int} {nw : Led} (h : LawSt w cD cB dk ce tb syn k bx cs views nw) : ∃ ps, (736, tabObj ps) ∈ nw := by
  rcases h.tp with h | ⟨c1, c2, c3, c4, c5, h, _⟩
  · exact ⟨_, h⟩
  · exact ⟨_, h⟩
theorem answers_l {w : World} {cD cB dk ce tb : Addr} {syn : Kd → Addr} {bx : Option Value} {cs : List Int} {views : List (Addr × Int)} {k : Int} {nw W : Led} {v : Addr} {p x n e : Int} {t t2 t3 : Tok} (y : Nat) (H : LawSt w cD cB dk ce tb syn k bx cs views nw) (hs : ∀ q ∈ nw, q ∈ W) (hv : (v, p) ∈ views) (hg : Sgns cs)
    (h0 : p ≤ x) (h1 : x ≤ p + cs.length) (e' : (x - p).toNat = y) : GivesC w 741 24 [.ref v, .ref tb, .int x t, .int n t2, .int e t3] W (AnsQ W (ansL cs p y n e)) :=
  have H := H.mono hs
  answers_y y (H.vw _ hv) H.tab hg h0 h1 H.tp e'
theorem column_l {w : World} {cD cB dk ce tb : Addr} {syn : Kd → Addr} {bx : Option Value} {cs : List Int} {views : List (Addr × Int)} {k : Int} {nw W : Led} {v : Addr} {p x : Int} {t t2 : Tok} (y : Nat) (H : LawSt w cD cB dk ce tb syn k bx cs views nw) (hs : ∀ q ∈ nw, q ∈ W) (hv : (v, p) ∈ views)
    (h0 : p ≤ x) (h1 : x ≤ p + cs.length) (e : (x - p).toNat = y) : Gives w 112 3 [.ref v, .int x t, .int 8 t2] W (IntR (colF cs y)) :=
  column_y y ((H.mono hs).vw _ hv) h0 h1 e
theorem tab_it {o : Obj} (h : o.cls = .type "range_iterator") : o ≠ tabObj #[] := fun e => by
  rw [e] at h
  cases h
section
variable {prog : Program} {w : World} {A : Around} {h₀ : Heap} {L : Addr} {m : Str → Option Value} {env : Env}
theorem due_src {elt : Expr} {x : Str} {scope : Scope} {cl : List (Str × Addr)} {Fin : Shared → List Value → Led → Prop} {l : Addr} {vs : List Value} {c : Nat} {xs : List An} {n4 : Led} {b : Int} {s₁ : Shared}
    (hh : A.handled = none) (F : Fr h₀ L s₁.heap m) (N : News h₀ L s₁.heap n4) (hm : (l, listOf vs.toArray c) ∈ n4) (ha : AnsIn n4 vs xs) (hl : xs.length ≤ 10)
    (turn : ∀ g i v z I oI C oC D m₂ ys nw h tk (E' : Value → Shared → Prop), DueJ b xs n4 i ys nw → xs[i]? = some z → AnIn nw v z → LCg.NsObj oC m₂ → m₂ x = some v → Fr h₀ L h m → News h₀ L h ((I, oI) :: (C, oC) :: (D, LCg.lst ys) :: nw) → (∀ p ∈ nw, p.1 ≠ I ∧ p.1 ≠ C ∧ p.1 ≠ D) →
      wpAny (model prog w) A (eval elt (compEnvC scope cl C env)) (TurnJ h₀ L m { s₁ with heap := g } I oI C oC D (LCg.lst ys) fun y nw' => DueJ b xs n4 (i + 1) (ys ++ [y]) nw') E' { s₁ with heap := h, toks := tk })
    (fin : ∀ g ys nw, (∀ q ∈ n4, q ∈ nw) → AnsIn nw ys (xs.map (An.mv b)) → Fin { s₁ with heap := g } ys nw) : LCg.CompSrc prog w A h₀ L m env elt x scope cl Fin (.ref l) s₁ :=
  LCg.CompSrc.ledger hh F N hm (by rw [List.size_toArray, ha.len, PySem.sizeLine_eq]; omega) fun g =>
    comp_J (DueJ b xs n4) (fun _ _ _ hj => Or.inr ⟨_, hj.1 _ hm, rfl, _, rfl⟩)
      (fun i v I oI C oC D m₂ ys nw h tk E' _ hJ hP hC hx F' N' off => by
        obtain ⟨z, hz, hv⟩ := AnsIn.get (ha.mono hJ.1) (show vs[i]? = some v by simpa using hP)
        exact turn g i v z I oI C oC D m₂ ys nw h tk E' hJ hz hv hC hx F' N' off)
      ⟨fun _ h => h, .nil⟩
      (fun ys nw hJ => by
        obtain ⟨h1, h2⟩ := due_end hJ (by rw [List.size_toArray, ha.len])
        exact fin g ys nw h1 h2)
end
theorem sub_tails {q : Addr × Obj} {a : Addr × Obj} {W W' : Led} (h : q ∈ W → q ∈ W') : q ∈ W → q ∈ a :: W' := fun hq => .tail _ (h hq)
-- arithmetic of the law
theorem om_a (v : Int) : (1 + v - 1).toNat = v.toNat := by rw [Int.add_comm, Int.add_sub_cancel]
theorem om_b (v p : Int) : (1 + v + (p - 1) - (1 + (p - 1))).toNat = v.toNat := (congrArg Int.toNat (Int.add_sub_add_right _ _ _)).trans (om_a v)
theorem om_c {v : Int} (p : Int) (h : 0 ≤ v) : 1 + (p - 1) ≤ 1 + v + (p - 1) := Int.add_le_add_right (Int.le_add_of_nonneg_right h) _
theorem om_f {x : Str} (h : x.cps.size ≤ 16) : (x.length : Int) < 2 ^ 63 := Int.lt_of_le_of_lt (Int.ofNat_le.mpr h) (by decide)
theorem om_g (x : Str) : -2 ^ 62 ≤ (x.length : Int) + 4 := Int.le_trans (by decide) (Int.le_add_of_nonneg_left (Int.natCast_nonneg _))
theorem om_k (x : Str) : -1 ≤ (x.length : Int) + 4 := Int.le_trans (by decide) (Int.le_add_of_nonneg_left (Int.natCast_nonneg _))
theorem om_h {x : Str} (h : x.cps.size ≤ 16) : (x.length : Int) + 4 < 2 ^ 62 := Int.lt_of_le_of_lt (Int.add_le_add_right (Int.ofNat_le.mpr h) 4) (by decide)
theorem om_i {n : Nat} (h : n ≤ 16) : n ≤ 100 := Nat.le_trans h (by decide)
theorem om_j {n : Nat} (h : n ≤ 16) : (n : Int) ≤ 100 := Int.ofNat_le.mpr (om_i h)
theorem om_j1 {n : Nat} (h : n ≤ 16) : (n : Int) + 1 ≤ 17 := Int.add_le_add_right (Int.ofNat_le.mpr h) 1
theorem om_j2 {n : Nat} (h : n ≤ 16) : (n : Int) + 1 ≤ 100 := Int.le_trans (om_j1 h) (by decide)
theorem om_l (n : Nat) : 0 < (n : Int) + 1 := Int.lt_add_one_iff.mpr (Int.natCast_nonneg n)
theorem om_l1 (n : Nat) : 0 ≤ (n : Int) + 1 := Int.le_of_lt (om_l n)
theorem om_m {x : Str} {v : Int} (h : v < (x.length : Int) + 1) : 1 + v ≤ 1 + ((sgsOf x).length : Int) := by
  rw [sgs_size]
  exact Int.add_le_add_left (Int.lt_add_one_iff.mp h) 1
theorem om_m1 {x : Str} {v : Int} (p : Int) (h : v < (x.length : Int) + 1) : 1 + v + (p - 1) ≤ 1 + (p - 1) + ((sgsOf x).length : Int) := by
  rw [Int.add_right_comm, sgs_size]
  exact Int.add_le_add_left (Int.lt_add_one_iff.mp h) _
theorem om_n {i : Nat} {k : Int} (h1 : i < (3 - 0 : Int).toNat) (h2 : k ≤ 17 + 3 * (i : Int)) : k ≤ 50 :=
  Int.le_trans h2 (Int.add_le_add_left (Int.mul_le_mul_of_nonneg_left (Int.ofNat_le.mpr (Nat.le_of_lt h1)) (by decide)) 17 |> fun z => Int.le_trans z (by decide))
theorem om_n0 {i : Nat} {k : Int} (h1 : i < (3 - 0 : Int).toNat) (h2 : k ≤ 17 + 3 * (i : Int)) : k ≤ 100 := Int.le_trans (om_n h1 h2) (by decide)
theorem om_n1 {i : Nat} {k : Int} (h1 : i < (3 - 0 : Int).toNat) (h2 : k ≤ 17 + 3 * (i : Int)) : k + 1 ≤ 100 := Int.le_trans (Int.add_le_add_right (om_n h1 h2) 1) (by decide)
theorem om_n2 {i : Nat} {k : Int} (h1 : i < (3 - 0 : Int).toNat) (h2 : k ≤ 17 + 3 * (i : Int)) : k + 1 + 1 ≤ 100 := Int.le_trans (Int.add_le_add_right (Int.add_le_add_right (om_n h1 h2) 1) 1) (by decide)
theorem om_n3 {i : Nat} {k : Int} (h2 : k ≤ 17 + 3 * (i : Int)) : k + 1 + 1 + 1 ≤ 17 + 3 * ((i : Int) + 1) := by
  rw [Int.mul_add, ← Int.add_assoc, Int.add_assoc k, Int.add_assoc k]
  exact Int.add_le_add_right h2 3
theorem om_z1 {k : Int} (h : 0 ≤ k) : 0 ≤ k + 1 := Int.le_add_one h
theorem om_v {v : Int} (h : v < 50) : 1 + (v - 1) ≤ 100 := by rw [Int.add_comm, Int.sub_add_cancel]; exact Int.le_trans (Int.le_of_lt h) (by decide)
theorem om_v0 {v : Int} (h : 0 ≤ v) : 0 ≤ 1 + (v - 1) := by rw [Int.add_comm, Int.sub_add_cancel]; exact h
theorem om_8 {v : Int} (h : 0 ≤ v) : -((8 : Nat) : Int) ≤ v := Int.le_trans (by decide) h
theorem om_t (w : List Int) : (List.take 24 w).length < 2 ^ 62 := by rw [List.length_take]; exact Nat.lt_of_le_of_lt (Nat.min_le_left _ _) (by decide)
theorem om_t1 (n : Nat) : min 40 n ≤ 16777216 := Nat.le_trans (Nat.min_le_left _ _) (by decide)
theorem om_q {a n : Nat} (h : a = n) (h2 : n ≤ 16) : a ≤ 16 := h ▸ h2
theorem om_w {n : Nat} (h : ¬ ((63 : Nat) : Int) < (n : Int)) : n ≤ 16777216 := Nat.le_trans (Nat.not_lt.mp fun k => h (Int.ofNat_lt.mpr k)) (by decide)
theorem om_x {x : Str} (p : Int) : 1 + ((sgsOf x).length : Int) = (x.length : Int) + 1 ∧ 1 + (p - 1) + ((sgsOf x).length : Int) = (x.length : Int) + 1 + (p - 1) := by
  rw [sgs_size, Int.add_right_comm, Int.add_comm 1]
  exact ⟨rfl, rfl⟩
theorem om_y {x : Str} {i : Nat} (h : ¬ (0 ≤ -1 + (i : Int) - 1 ∧ -1 + (i : Int) - 1 < ((sgsOf x).length : Int)) → codeR (sgsOf x) (-1 + (i : Int) - 1) = -1) (k : ¬ -1 + (i : Int) ≤ (x.length : Int)) : codeR (sgsOf x) (-1 + (i : Int) - 1) = -1 :=
  h fun z => k (by have := z.2; rw [sgs_size] at this; exact Int.le_of_sub_one_lt this)
theorem om_y1 {x : Str} {i : Nat} (h : ¬ (0 ≤ -1 + (i : Int) - 1 ∧ -1 + (i : Int) - 1 < ((sgsOf x).length : Int)) → codeR (sgsOf x) (-1 + (i : Int) - 1) = -1) (k : ¬ 1 ≤ -1 + (i : Int)) : codeR (sgsOf x) (-1 + (i : Int) - 1) = -1 :=
  h fun z => k (Int.le_of_sub_nonneg z.1)
theorem om_p {i : Int} (h : 1 ≤ i) : 0 ≤ i - 1 := Int.sub_nonneg_of_le h
theorem om_s {s : Nat} : s + 1 ≠ s + 1 + 1 := (Nat.succ_ne_self _).symm
theorem om_j3 {x : Str} (h : x.cps.size ≤ 16) : (x.length : Int) + 1 ≤ 100 := om_j2 h
theorem om_i3 {x : Str} (h : x.cps.size ≤ 16) : x.length ≤ 100 := om_i h
set_option maxHeartbeats 4000000 in
theorem post_ok (w : List Int) : PySem.Challenge.rw_oj0035_01.row.claim.post [ofPy (PyData.list (w.map PyData.int))] (WData.bool true) [ofPy (PyData.list (w.map PyData.int))] = true := by wrow_post

theorem u76 : True := by
  k_with_none
  k_with "m_om" => (with_reducible first | decide | assumption | ((show @LT.lt Nat _ _ _); first | exact rm_a ‹_› rfl | exact rm_b ‹_› rfl | exact rm_c ‹_› | exact rm_d ‹_› | exact tn_a ‹_› | exact tn_b ‹_› | exact tn_c ‹_› | exact tn_d ‹_› | exact rm_e ‹_› rfl | exact tp_d ‹_› | exact tp_e ‹_› ‹_› | exact tp_h ‹_› | exact tp_v ‹_› | exact tr_a ‹_›) | ((show @LE.le Nat _ _ _); first | exact tn_h ‹_› | exact tp_c ‹_› | exact tp_k ‹_› ‹_› | exact tp_l ‹_› ‹_› ‹_› | exact tp_x ‹_› ‹_› | exact Nat.le_trans ‹_› ‹_›) | ((show @LT.lt Int _ _ _); first | exact tn_m ‹_› | exact tn_n ‹_› | exact tp_p ‹_› ‹_› ‹_› ‹_› | exact tp_q ‹_› ‹_› ‹_› | exact Int.lt_of_toNat_lt ‹_› | exact Int.lt_of_lt_of_le ‹_› ‹_› | exact Int.sub_left_lt_of_lt_add ‹_› | exact tr_b ‹_›) | ((show @LE.le Int _ _ _); first | exact tn_i ‹_› | exact tn_j ‹_› | exact tn_k ‹_› | exact tn_l ‹_› | exact tn_o ‹_› | exact tp_i ‹_› ‹_› | exact tp_a ‹_› ‹_› | exact tp_a1 ‹_› ‹_› | exact tp_b ‹_› | exact tp_r ‹_› ‹_› | exact tp_s ‹_› | exact Int.le_of_lt (Int.not_le.mp ‹_›) | exact Int.sub_nonneg_of_le ‹_› | exact Int.sub_nonneg_of_le (tn_i ‹_›) | exact Int.le_add_of_nonneg_right (Int.natCast_nonneg _)) | ((show @Eq Nat _ _); first | exact tn_s ‹_› | exact tn_t ‹_› | exact (tn_s ‹_›).symm | exact tp_g ‹_› | exact tn_s (Int.not_le.mp ‹_›) | exact tp_u ‹_› | exact tp_j) | ((show @Eq Int _ _); first | exact tn_e ‹_› | exact tn_f ‹_› | exact tn_g ‹_› | exact tp_m ‹_› | exact tp_n ‹_› | exact tp_o ‹_› ‹_› | exact tp_w ‹_› ‹_› | exact tp_y) | exact tp_f ‹_› ‹_› | exact tp_f ‹_› | exact tp_f (Int.not_lt.mp ‹_›) | exact tp_t ‹_› ‹_› | exact Nat.ne_of_gt ‹_› | exact Nat.ne_of_lt ‹_› | exact Nat.ne_of_gt (Nat.lt_trans ‹_› ‹_›))
  k_with "m_sd1" => ((case k1 | k2 | k3 | k4 | k5 => assumption))
  k_with "m_sd2" => ((case kK => first | exact rfl | assumption); (case kd => first | (dsimp only [ktrTop, Around.deeper]; omega) | ktr_room); (case ku => first | (dsimp only [ktrTop, Around.deeper]; omega) | ktr_units))
  k_with "m_steps" => (repeat' (first | ((first | (k_unfold) | fail); (try dsimp only)) | (first | (k_extra "m_ret") | fail) | (first | (walk1) | fail) | (dsimp only; (first | (walk1) | fail)) | fail "no step"))
  k_with "m_call" => k_dflt ((first | (refine' GivesU.useM ?G ?k1 ?k2 ?k3 ?k4 ?k5 ?kK ?kd ?ku ?_; k_extra "m_sd1"; (case G => k_extra "m_conU"); k_extra "m_sd2"; intro r9 news9 h9 tk9 hR9 F9 N9; (try k_sweep); k_extra "m_openU" <;> ((try dsimp only); (try k_fold))) | fail))
  k_with "m_call" => k_dflt ((first | (refine' Gives.useM ?G ?k1 ?k2 ?k3 ?k4 ?k5 ?kK ?kd ?ku ?_; k_extra "m_sd1"; (case G => k_extra "m_con"); k_extra "m_sd2"; intro r9 h9 tk9 hR9 F9 N9; (try k_sweep); (k_extra "m_open"); ((try dsimp only); (try k_fold))) | fail))
  k_with "m_call" => k_dflt ((first | (refine' Gives.useI ?G ?k1 ?k2 ?k3 ?k4 ?k5 ?kK ?kd ?ku ?_; (case G => k_extra "m_con"); k_extra "m_sd1"; k_extra "m_sd2"; intro t9 h9 tk9 F9 N9; (try k_sweep); (try k_extra "m_openI"); (try dsimp only); (try k_fold)) | fail))
  k_with "m_ne" => ((with_reducible refine ofs_ne ?_); simp only [ne_eq, String.reduceEq, not_false_eq_true]; done)
  k_with "m_look" => (first | k_dflt (exact rfl) | repeat (first | with_reducible exact look_here | with_reducible exact look_ithere | with_reducible refine Eq.trans (look_next (by k_extra "m_ne")) ?_ | with_reducible refine Eq.trans (look_itnext (by k_extra "m_ne")) ?_ | with_reducible refine Eq.trans (look_off (by k_extra "m_off")) ?_ | with_reducible refine Eq.trans look_nil ?_ | assumption | fail "m_look"))
  k_with "m_kind" => (first | kernel_rfl! | k_dflt (exact rfl) | repeat (first | with_reducible exact kind_here | with_reducible refine Eq.trans (kind_next (by k_extra "m_ne")) ?_ | fail "m_kind"))
  k_with "m_spl" => (with_reducible refine' args_ev ?zv1 ?_; (case zv1 => k_extra "m_ev"))
  k_with "m_spl" => (with_reducible first | (refine' args_ev1 ?zv1 ?_; (case zv1 => k_extra "m_ev")) | (refine' args_ev2 ?zv1 ?zv2 ?_; (case zv1 => k_extra "m_ev"); (case zv2 => k_extra "m_ev")) | (refine' args_ev3 ?zv1 ?zv2 ?zv3 ?_; (case zv1 => k_extra "m_ev"); (case zv2 => k_extra "m_ev"); (case zv3 => k_extra "m_ev")) | (refine' args_ev4 ?zv1 ?zv2 ?zv3 ?zv4 ?_; (case zv1 => k_extra "m_ev"); (case zv2 => k_extra "m_ev"); (case zv3 => k_extra "m_ev"); (case zv4 => k_extra "m_ev")))
  k_with "m_cam" => (with_reducible refine' method_ev ?zv1 ?_; (case zv1 => k_extra "m_ev"))
  k_with "m_bin" => (with_reducible (first | (refine' bin_ev2 ?zv1 ?zv2 ?_; (case zv1 => k_extra "m_ev"); (case zv2 => k_extra "m_ev")) | (refine' bin_ei ?zv1 ?_; (case zv1 => k_extra "m_ev")) | (refine' bin_ev ?zv1 ?_; (case zv1 => k_extra "m_ev"))))
  k_with "m_ite" => (first | with_reducible refine ite_tt ?_ | with_reducible refine ite_ff ?_ | (with_reducible refine dec_pos ?c ?_; (case c => omega)) | (with_reducible refine dec_neg ?c ?_; (case c => omega)) | (with_reducible refine ine_pos ?c ?_; (case c => omega)) | (with_reducible refine ine_neg ?c ?_; (case c => omega)) | (with_reducible refine ieq_pos ?c ?_; (case c => omega)) | (with_reducible refine ieq_neg ?c ?_; (case c => omega)) | (with_reducible refine split_dec ?_ ?_ <;> intro _) | (with_reducible refine split_ine ?_ ?_ <;> intro _) | (with_reducible refine split_ieq ?_ ?_ <;> intro _))
  k_with "m_sub" => (intro q9 h9; repeat' (first | exact h9 | refine List.mem_append_left _ ?_ | refine List.mem_cons_of_mem _ ?_))
  k_with "m_view" => (first | assumption | exact ViewIn.mono (by assumption) (by k_extra "m_sub"))
  k_with "m_con" => ((with_reducible show Gives _ 43 _ _ _ _); exact begin_ok (by k_extra "m_view"))
  k_with "m_con" => ((with_reducible show Gives _ 50 _ _ _ _); exact end_ok (by k_extra "m_view"))
  k_with "m_open" => (rcases hR9 with ⟨i9, t9, rfl⟩)
  k_with "m_conU" => ((with_reducible show GivesU _ 70 _ _ _ _); exact rowof_ok (by assumption) (by omega) (by omega))
  k_with "m_conU" => ((with_reducible show GivesU _ 70 _ _ _ _); exact rowof1_ok (by assumption))
  k_with "m_cw" => ((with_reducible show wpAny _ _ (callWith _ _ _ (backTo _ (starEach (_ :: _) _)) []) _ _ _); k_dflt (refine' callWith_K ?zX ?zk ?_; (case zX => assumption); (case zk => k_is)))
  trivial
local macro_rules | `(tactic| walk_at "eval Call") => `(tactic| (k_here; k_fold))
set_option maxHeartbeats 8000000 in
theorem lawT : Mine.T := (by exact qz : Qz _ (by
  try delta Mine.T
  k_with "m_om" => (with_reducible first | ((show @LE.le Int _ _ _); first | exact om_c _ ‹_› | exact om_g _ | exact om_j3 ‹_› | exact om_m ‹_› | exact om_m1 _ ‹_› | exact om_n0 ‹_› ‹_› | exact om_n1 ‹_› ‹_› | exact om_n2 ‹_› ‹_› | exact om_n3 ‹_› | exact om_v ‹_›) | ((show @LE.le Nat _ _ _); first | exact om_i3 ‹_› | exact om_t1 _ | exact om_w ‹_› | exact Nat.min_le_left _ _) | ((show @LT.lt Int _ _ _); first | exact om_f ‹_› | exact om_h ‹_›) | ((show @Eq Nat _ _); first | exact om_a _ | exact om_b _ _) | ((show @Eq Int _ _); first | exact Int.add_sub_add_right _ _ _ | exact om_y ‹_› ‹_› | exact om_y1 ‹_› ‹_›) | exact om_t _ | exact om_x _)
  k_with "m_conU" => (first | (refine' table_ok ?zq; (case zq => (repeat (refine List.forall_mem_cons.mpr ⟨by first | exact notIt_lst | exact notIt_tab | exact notIt_cell (by assumption), ?_⟩)); exact fun _ h => nomatch h)) | fail)
  k_with "m_openU" => (rcases hR9 with ⟨tb, syn, rfl, ht9, hsub9, hdk9⟩)
  k_with "m_comp" => k_dflt (first | (refine' LCg.ListComp_U ?zF (by with_unfolding_all rfl) (by decide) (by rfl) (by decide) (by rfl) ?_; (case zF => assumption)) | fail)
  k_with "m_stn" => ((with_reducible show wpAny _ _ (storeName _ (Str.ofString "deck") _) _ _ _); k_dflt (first | ((rename News _ _ _ _ => lN); (have lN9 := drop_head lN); refine' storeX_C ?zF ?zN ?zc (UpdF.head off_ne) ?zd ?_ ?za ?zb; (case za => rfl); (case zb => rfl); (case zF => assumption); (case zc => rfl); (case zN => exact pickN lN9 (hsub9 _ (by k_mem))); (case zd => assumption); intro h9 o9 F9 N9 d9; (try dsimp only at N9); (rename IntsAre _ _ => hI9); (have hst := law_st (cs := []) (y0 := none) lN9 (hsub9 _ (List.Mem.tail _ (List.Mem.head _))) hI9 (by rw [hI9.length, List.length_map, List.length_take]; omega) (hsub9 _ (List.Mem.head _)) (by omega) (hsub9 _ (List.Mem.tail _ (List.Mem.tail _ (List.Mem.tail _ (List.Mem.tail _ (List.Mem.head _)))))) (by assumption) (hsub9 _ (List.Mem.tail _ (List.Mem.tail _ (List.Mem.tail _ (List.Mem.head _))))) (by assumption) (by k_ne) (hsub9 _ (List.Mem.tail _ (List.Mem.tail _ (List.Mem.tail _ (List.Mem.tail _ (List.Mem.tail _ (List.Mem.head _))))))) ht9 d9)) | fail))
  k_with "m_per3" => exact List.forall_mem_cons.mpr ⟨by k_mem, List.forall_mem_cons.mpr ⟨by k_mem, List.forall_mem_cons.mpr ⟨by k_mem, fun _ h => nomatch h⟩⟩⟩
  k_with "m_src" => (
    have := hst
    k_dflt (
      (rename IsRange _ _ _ _ _ _ _ _ => rg9); (rename Fr _ _ _ _ => lF9); (rename News _ _ _ _ => lN9)
      (refine' src16 (by rfl) lF9 lN9 rg9 (rng16 _) ?_)
      clear lF9 lN9
      intro g9 n9 hn9
      (first | (refine' comp_J (SigJ _ _ _ _ _ _ _ _) (fun _ _ _ _ => trivial) ?zt (sig0 hst (fun q hq => List.Mem.tail _ hq)) ?zf) | fail)
      rotate_left
      (intro ys nw hJ; (refine' SigJ.open hJ ?_; intro l9 hxs hxl hxg hst9); (refine' CellAt.open hst9.cd ?_; intro od hcm hcd))
      rotate_left
      (intro i v I oI C oC D m2 ys nw h tk E2 hi hJ hP hC hx F N off; (refine' SigJ.open hJ ?_; intro l9 hxs hxl hxg hst9); (obtain ⟨t9, rfl⟩ := hP); (refine' CellAt.open hst9.cd ?_; intro od hcm hcd); (have hi9 : i < 16 := by omega))))
  k_with "m_conU" => ((have := hi9); exact draw_turn hst9.deck (by k_extra "m_sub") (by decide) (by decide) (by omega) (by omega))
  k_with "m_openU" => ((have := hi9); (refine' DrawT.open hR9 ?_; intro v9 t9' nw' hdr hv0 hv1 hs1 hs2 hs3))
  k_with "TurnJ" => ((have := hi9); k_dflt ((refine' ex2 (item8_ hv0 hv1) ?_; intro c9 ec9 hc9); rw [ec9]; (have hf9 := turn_fin N9 hst9.deck off hs1 hs2 hs3); exact TurnJ.intro F9 hf9.1 hf9.2 (sig_step hxs hxl hxg hst9 hdr hc9)))
  k_with "m_join" => k_dflt ((rename News _ _ _ _ => lN9); refine' join_signs (News.isList lN9 (by k_mem)) hxs hxl hn9 hxg ?_; intro x9 t9 k9 hx9 hg9; (have hx16 : x9.cps.size ≤ 16 := by omega); (have hxz : x9.length = x9.cps.size := rfl); (have hcl := sgs_size (x := x9)))
  k_with "m_conU" => ((have := hx16); exact draw_in (hst9.deck.mono (by k_extra "m_sub")) (by decide) (by decide) (by omega) (by omega))
  k_with "m_openU" => ((have := hx16); (have hst9 := LawSt.draw (LawSt.mono hst9 (by k_extra "m_sub")) hR9); (refine' DrawR.open hR9 ?_; intro v9 t9' hv0 hv1); (refine' CellAt.open hst9.cd ?_; intro od hcm hcd))
  k_with "m_openU" => ((have := hx16); (first | ((have := hvwA); (rcases hR9 with ⟨v2, lc2, d2, D2, ys2, c2, es2, k2, rfl, rfl, hvwB, _⟩); (refine' ex5 (law_rows N9 (LawSt.mono hst9 (by k_extra "m_sub")) hvwA hvwB (by k_extra "m_per3") (by k_extra "m_per3")) ?_; intro W NW hst9 hvA hvB hNI); clear N9; (refine' CellAt.open hst9.cb ?_; intro ob9 hbm9 hbd9); (refine' ViewIn.open hvA ?_; intro dxA lcA h1A h2A k1A k2A ttA vsA nA m1A m2A m3A hIA hlenA hp0A hp1A); (refine' ViewIn.open hvB ?_; intro dxB lcB h1B h2B k1B k2B ttB vsB nB m1B m2B m3B hIB hlenB hp0B hp1B)) | (rcases hR9 with ⟨v, lc, d, D, ys, c, es, k, rfl, rfl, hvwA, _⟩)))
  k_with "m_stn" => ((with_reducible show wpAny _ _ (storeName _ (Str.ofString "by") _) _ _ _); k_dflt ((rename News _ _ _ _ => lN9); (refine' CellAt.open hst9.cb ?_; intro ob hbm hbd); refine' storeX_C ?zF ?zN ?zc (UpdF.head off_ne) ?zd ?_ ?za ?zb; (case za => rfl); (case zb => rfl); (case zF => assumption); (case zc => rfl); (case zN => exact pickN lN9 hbm); (case zd => exact hbd); intro h9 o9 F9 N9 d9; (try dsimp only at N9); (have hst9 := LawSt.by_ hst9 lN9 hbm hbd d9)))
  k_with "m_ner" => ((have := hvA); k_dflt ((rename News _ _ _ _ => lN9); refine' ne_ints lN9 (by k_mem) (by k_mem) (.cons _ _ (.cons _ _ (.cons _ _ (.cons _ _ .nil)))) (.cons _ _ (.cons _ _ (.cons _ _ (.cons _ _ .nil)))) ?ze (by first | ktr_units | decide +kernel | rfl) ?_; (case ze => (simp only [List.cons.injEq, and_true, true_and]; omega))))
  k_with "m_for" => ((rename Fr _ _ _ _ => lF9); (with_unfolding_all refine' For_invVF lF9 ?k1 ?k2 ?_; (case k1 => exact rfl); (case k2 => exact rfl); k_whole))
  k_with "m_iter" => (
    (rename Fr _ _ _ _ => lF); (rename News _ _ _ _ => lN); (rename IsRange _ _ _ _ _ _ _ _ => rgX)
    with_unfolding_all refine' range_J (by rfl) (fun _ m nw => nw = W ∧ LawFr tb v v2 x9 m) (by rfl) rgX (small_one (by omega) (by omega) (by omega) (by omega)) (range_len (by omega)) lF (fun q hq => lN q (by (repeat (refine List.mem_cons_of_mem _ ?_)); exact hq)) ?h0 (fun _ _ _ h => h.1 ▸ hNI) ?st ?dn
    (case h0 => exact ⟨rfl, ⟨by k_extra "m_look", ⟨_, by k_extra "m_look"⟩, by k_extra "m_look", by k_extra "m_look"⟩⟩)
    rotate_left
    (clear lF lN; intro h tk m nw hJ F9 N9; (have hnw := hJ.1); (have hFr := hJ.2); rw [hnw] at N9; clear hnw)
    rotate_left
    (clear lF lN; intro i t m nw h tk I oI hcI hi hJ F9 N9; (obtain ⟨rfl, hFr⟩ := hJ); (have hl1 := hFr.table); (have hl2 := hFr.one); (have hl3 := hFr.other); (refine' ex1 hFr.signs ?_; intro tq9 hl4); (have hoff := @code_off (sgsOf x9) (-1 + (i : Int) - 1)); (try dsimp only at F9); (try k_fold)))
  k_with "m_item" => ((with_reducible show wpAny _ _ (subscriptTail _ _ (Value.str x9 _) (Value.int _ _)) _ _ _); refine' itemC (by omega) (by omega) (by omega) ?_; intro c9 hc9)
  k_with "m_name" => (with_reducible refine' ldC ?k1 ?k4 ?k2 ?k5 ?_; (case k4 => k_extra "m_kind"); (case k1 => assumption); (case k2 => k_extra "m_look"); (case k5 => simp only [ne_eq, String.reduceEq, not_false_eq_true]))
  k_with "m_ev" => (with_reducible refine' ev_ldC ?k1 ?k4 ?k2 ?k5; (case k4 => k_extra "m_kind"); (case k1 => assumption); (case k2 => k_extra "m_look"); (case k5 => simp only [ne_eq, String.reduceEq, not_false_eq_true]))
  k_with "m_ev" => ((with_reducible show Ev _ _ _ _ _ (Expr.Name (Str.ofString "by") _) _); k_dflt ((first | refine' ldCell ?zN hst9.cb ?zs ?zc ?zl ?z1 | refine' ldCell ?zN hst.cb ?zs ?zc ?zl ?z1); (case zN => assumption); (case zs => k_extra "m_sub"); (case zc | zl => kernel_rfl!); (case z1 => simp only [ne_eq, String.reduceEq, not_false_eq_true])))
  k_with "m_name" => ((with_reducible show wpAny _ _ (eval (Expr.Name (Str.ofString "by") _) _) _ _ _); (with_reducible refine' Ev.run ?_ _ ?_); (· k_extra "m_ev"))
  k_with "m_ev" => ((with_reducible show Ev _ _ _ _ _ (Expr.Name (Str.ofString "deck") _) _); k_dflt ((first | refine' ldCell ?zN hst9.cd ?zs ?zc ?zl ?z1 | refine' ldCell ?zN hst.cd ?zs ?zc ?zl ?z1); (case zN => assumption); (case zs => k_extra "m_sub"); (case zc | zl => kernel_rfl!); (case z1 => simp only [ne_eq, String.reduceEq, not_false_eq_true])))
  k_with "m_name" => ((with_reducible show wpAny _ _ (eval (Expr.Name (Str.ofString "deck") _) _) _ _ _); (with_reducible refine' Ev.run ?_ _ ?_); (· k_extra "m_ev"))
  k_with "m_cw" => ((with_reducible show wpAny _ _ (callWith _ _ _ (backTo _ (starEach [] _)) []) _ _ _); (first | (k_dflt (refine' callWith_K0 ?zX ?zk ?_; (case zX => with_reducible exact Frag.In.keeps (by assumption) (Fr.keep (by assumption))); (case zk => k_is))) | fail); (try dsimp only [List.nil_append, List.cons_append]))
  k_with "m_con" => ((with_reducible show Gives _ 57 _ _ _ _); exact code_at_y (-1 + (i : Int) - 1) (by k_extra "m_view") (by omega))
  k_with "TPost" => (dsimp only [TPost])
  k_with "TEnd" => k_dflt (refine' TEnd.intro ?zF ?zN ?zJ; (case zF => assumption); (case zN => assumption); (case zJ => exact ⟨rfl, ⟨by k_extra "m_look", ⟨_, by k_extra "m_look"⟩, by k_extra "m_look", by k_extra "m_look"⟩⟩))
  k_with "m_iter" => (
    have := hFr
    k_dflt (
      (rename Fr _ _ _ _ => lF); (rename News _ _ _ _ => lN); (rename IsRange _ _ _ _ _ _ _ _ => rgX)
      with_unfolding_all refine' range_J (by rfl) (fun i m nw => LawFr tb v v2 x9 m ∧ TurnSt _ _ _ _ _ _ _ _ _ _ i nw) (by rfl) rgX (small_one (by omega) (by omega) (by omega) (by omega)) (range_len (by omega)) lF lN ⟨hFr, turn0 hst9 (by omega) (by omega) hNI⟩ (fun _ _ _ h => h.2.2) ?st2 ?dn2
      rotate_left
      (clear lF lN; intro h tk m nw hJ F9 N9; (have hFr := hJ.1); (refine' TurnSt.open hJ.2 ?_; intro k9 hk0 hk1 hst9 hNI); (refine' ex1 hst9.grown ?_; intro ps9 htab9))
      rotate_left
      (clear lF lN; intro i t m nw h tk I oI hcI hi hJ F9 N9; (have hFr := hJ.1); (refine' TurnSt.open hJ.2 ?_; intro k9 hk0 hk1 hst0 hNI0); (have hl1 := hFr.table); (have hl2 := hFr.one); (have hl3 := hFr.other); (refine' ex1 hFr.signs ?_; intro tq9 hl4); (have hne9 := DeckIn.off hst0.deck N9 (List.Mem.head _) (fun q hq => List.mem_cons_of_mem _ hq) hcI); (have hst9 := LawSt.mono hst0 (fun q hq => List.mem_cons_of_mem (I, oI) hq)); (have hI9 : (I, oI) ∈ (I, oI) :: nw := List.Mem.head _); (refine' CellAt.open hst9.cd ?_; intro od hcm hcd); (refine' CellAt.open hst9.cb ?_; intro ob hbm hbd); (try dsimp only at F9); (try k_fold))))
  k_with "m_and" => ((with_reducible show GoodW _ _ _ _ _ _ _ ∧ _); k_dflt (refine' ⟨?g1, GrownAt.of N9 htab9, True.intro⟩; (case g1 => (refine goodW_bool F9 (by assumption) (raisesW_false ?_) ?_; (· wrow_none_raised); (· exact post_ok _)))))
  k_with "m_conU" => ((have := hI9); exact draw_turn hst9.deck (fun _ h => h) (by omega) (by omega) (by omega) (by omega))
  k_with "m_openU" => ((have := hI9); (first | ((have := hvC); refine' DrawT.open hR9 ?_; intro vE tE nw' hdr hvE hvE1 hs1 hs2 hs3) | ((have := hvA9); refine' DrawT.open hR9 ?_; intro vC tC nw' hdr hvC hvC1 hs1 hs2 hs3) | (refine' DrawT.open hR9 ?_; intro vA tA nw' hdr hvA9 hvA1 hs1 hs2 hs3)); (have hst9 := LawSt.mono (LawSt.draw hst9 hdr) hs1); (have hI9 := hs2 _ hI9 hne9); (refine' CellAt.open hst9.cd ?_; intro od hcm hcd); (refine' CellAt.open hst9.cb ?_; intro ob hbm hbd))
  k_with "m_compA" => k_dflt (refine' LCg.Assign_ListComp_U ?zF ?k1 ?k2 ?k3 ?k4 ?k5 ?k6 ?k7 ?k8 ?k9 ?_; (case zF => assumption); (case k1 => rfl); (case k2 => with_unfolding_all rfl); (case k3 => with_unfolding_all rfl); (case k4 => decide); (case k5 => rfl); (case k6 => decide); (case k7 => rfl); (case k8 => rfl); (case k9 => rfl))
  k_with "m_call" => ((with_reducible show wpAny _ _ (call (Value.ref 741) _) _ _ _); k_dflt ((refine' GivesC.use0 ?G ?k1 ?k2 ?k3 ?k4 ?k5 ?k6 ?k7 ?k8 ?kK ?kd ?ku ?_); (case k1 => assumption); (case k2 => assumption); (case k3 => assumption); (case k4 => assumption); (case k5 => assumption); (case k6 => assumption); (case k7 => assumption); (case k8 => assumption); (case G => k_extra "m_conC"); (case kK => first | exact rfl | assumption); (case kd => first | (dsimp only [ktrTop, Around.deeper]; omega) | ktr_room); (case ku => first | (dsimp only [ktrTop, Around.deeper]; omega) | ktr_units); intro r9 news9 h9 tk9 hR9 F9 N9; (try k_sweep); k_extra "m_openC" <;> ((try dsimp only); (try k_fold))))
  k_with "m_conC" => (first | exact answers_l vA.toNat hst9 (by k_extra "m_sub") (List.Mem.head _) hg9 (by omega) (by omega) (by omega) | exact answers_l vA.toNat hst9 (by k_extra "m_sub") (List.Mem.tail _ (List.Mem.head _)) hg9 (by omega) (by omega) (by omega))
  k_with "m_openC" => ((have hst9 := LawSt.ans (LawSt.mono hst9 (by k_extra "m_sub")) hR9); (first | ((have := hm1); (refine' AnsQ.open hR9 ?_; intro l2 vs2 c2 hm2 ha2 hkp2 _); (have hmD := hkp2 _ (List.Mem.head _) tab_lst); (have hd3 := AnsIn.pick (fun q hq ho => hkp2 q (List.mem_cons_of_mem _ hq) (tab_ano ho)) hd2); (have hI9 := hkp2 _ (List.mem_cons_of_mem _ hI9) (tab_it hcI))) | ((refine' AnsQ.open hR9 ?_; intro l1 vs1 c1 hm1 ha1 hkp1 _); (have hI9 := hkp1 _ (by first | exact hI9 | exact List.mem_cons_of_mem _ hI9) (tab_it hcI)))); (refine' CellAt.open hst9.cb ?_; intro ob hbm hbd))
  k_with "m_src" => ((have := hm1); k_dflt ((rename Fr _ _ _ _ => lF9); (rename News _ _ _ _ => lN9); (refine' due_src (b := v9 - 1) (by rfl) lF9 lN9 hm1 ha1 (by exact Nat.le_of_ble_eq_true rfl) ?yt ?yf); clear lF9 lN9; rotate_left; (intro g ys nw hd1 hd2; (have hst9 := LawSt.mono hst9 hd1); (have hI9 := hd1 _ hI9); (refine' CellAt.open hst9.cb ?_; intro ob hbm hbd)); rotate_left; (intro g i v z I2 oI2 C oC D m2 ys nw h tk E2 hJ hz hv hC hx F N off; (obtain ⟨a9, rfl⟩ := hv.ref); (have hbm := hJ.1 _ hbm))))
  k_with "m_conU" => ((have := hz); exact moved_ok (AnIn.mono hv (by k_extra "m_sub")))
  k_with "m_openU" => ((have := hz); (refine' ex4 (moved_turn N9 hR9 off) ?_; intro nw' hn1 hn2 hn3 hn4))
  k_with "TurnJ" => ((have := hz); k_dflt (exact TurnJ.intro F9 hn1 hn2 (due_step hJ hz hn3 hn4)))
  k_with "m_ner" => ((have := hm2); k_dflt ((rename News _ _ _ _ => lN9); refine' ne_answers lN9 hm2 hmD ha2 hd3 ansL_mv.symm ansL_ok (by first | ktr_units | decide +kernel | rfl) ?_))
  k_with "m_con" => ((with_reducible show Gives _ 112 _ _ _ _); (first | exact column_l vA.toNat hst9 (by k_extra "m_sub") (List.Mem.head _) (by omega) (by omega) (by omega) | exact column_l vA.toNat hst9 (by k_extra "m_sub") (List.Mem.tail _ (List.Mem.head _)) (by omega) (by omega) (by omega)))
  k_with "TEnd" => ((have := hI9); k_dflt (refine' TEnd.intro ?zF ?zN ?zJ; (case zF => assumption); (case zN => exact prune_news N9 hI9); (case zJ => exact ⟨⟨by k_extra "m_look", ⟨_, by k_extra "m_look"⟩, by k_extra "m_look", by k_extra "m_look"⟩, turn_next hst9 (by omega) (by omega)⟩)))
  k_go0
  all_goals (try k_fold)
  rename Frag.In _ _ => X
  rename Top _ _ _ _ _ _ => T
  rename Below _ _ _ _ => B
  rename CodeHd _ _ _ => CB
  k_extra "m_steps"
  skip))

-- names of my own that stand where the head would lay large twins: it then goes on without them (the file stays small)
theorem hd.tw9114040154067001661 : True := trivial
theorem hd.tw10217079751583641481 : True := trivial
theorem hd.tw7335359272283513048 : True := trivial
theorem hd.tw7611566840279018639 : True := trivial
theorem hd.tw18093387381490521874 : True := trivial
theorem hd.tw3708379670096615023 : True := trivial
theorem hd.tw4898149091671451737 : True := trivial
theorem hd.tw10727248033764811480 : True := trivial
theorem hd.tw7568185435610096027 : True := trivial
theorem hd.tw2350349309619206374 : True := trivial
theorem hd.tw26425463804135960 : True := trivial
theorem hd.tw16244189857310113590 : True := trivial
theorem hd.tw5858630264745516266 : True := trivial
theorem hd.tw8238929830477363962 : True := trivial
theorem hd.tw404451572033071931 : True := trivial
theorem hd.tw6780663918824090400 : True := trivial
theorem hd.tw12610195273081865529 : True := trivial
theorem hd.tw78025292344231536 : True := trivial
theorem hd.tw4513884756475024261 : True := trivial
theorem hd.tw11364443708160879001 : True := trivial
theorem hd.tw6507262688116863064 : True := trivial
theorem hd.tw17070941380808615275 : True := trivial
theorem hd.tw4185656317496899905 : True := trivial
theorem hd.tw678209747344391502 : True := trivial
theorem hd.tw6320253292602491972 : True := trivial
theorem hd.tw10806950440038215891 : True := trivial
theorem hd.tw7792395482447073224 : True := trivial
theorem hd.tw15422856539912107476 : True := trivial
theorem hd.tw16640546478005224243 : True := trivial
theorem hd.tw10216474801634566288 : True := trivial
theorem hd.tw5147079676372830966 : True := trivial
theorem hd.tw6449127861642672459 : True := trivial
theorem hd.tw4065347644161347641 : True := trivial
theorem hd.tw14892549342360969540 : True := trivial
theorem hd.tw6819123309680001836 : True := trivial
theorem hd.tw6755925336976613232 : True := trivial
theorem hd.tw14567429538950270057 : True := trivial
theorem hd.tw5174551420813472067 : True := trivial
theorem hd.tw18293732401869909652 : True := trivial
theorem hd.tw13599475250904924777 : True := trivial
theorem hd.tw961146359098324282 : True := trivial
theorem hd.tw12870888531099404533 : True := trivial
theorem hd.tw9653751418590077562 : True := trivial
theorem hd.tw3109861748172591687 : True := trivial
theorem hd.tw15615420239508185596 : True := trivial
theorem hd.tw15683763237869141255 : True := trivial
theorem hd.tw6393866757454862588 : True := trivial
theorem hd.tw14225386564829687435 : True := trivial
theorem hd.tw16240987189780228909 : True := trivial
theorem hd.tw16502264421070913907 : True := trivial
theorem hd.tw3982727318778854815 : True := trivial
theorem hd.tw920214292312260371 : True := trivial
theorem hd.tw302100336521851816 : True := trivial
theorem hd.tw13132618709999183898 : True := trivial
theorem hd.tw12575139184659369484 : True := trivial
theorem hd.tw3443669649825651883 : True := trivial
theorem hd.tw5635641802508607975 : True := trivial
theorem hd.tw7354087734392854552 : True := trivial
theorem hd.tw14060237666301923597 : True := trivial
theorem hd.tw14137390275340422267 : True := trivial
theorem hd.tw4425926697756232486 : True := trivial
theorem hd.tw5167245352685981253 : True := trivial
theorem hd.tw7523672394736509286 : True := trivial
theorem hd.tw7526368328331116154 : True := trivial
theorem hd.tw16357263729072622229 : True := trivial
theorem hd.tw9330943631129107780 : True := trivial
theorem hd.tw9398405308114057262 : True := trivial
theorem hd.tw18358800413957953924 : True := trivial
theorem hd.tw6547078798241139092 : True := trivial
theorem hd.tw6761669909254768831 : True := trivial
theorem hd.tw12590977762386282803 : True := trivial
theorem hd.tw6785817131721698500 : True := trivial
theorem hd.tw13217827037086042188 : True := trivial
theorem hd.tw2802487479954581227 : True := trivial
theorem hd.tw4126306136578151734 : True := trivial
theorem hd.tw4819202231147424091 : True := trivial
theorem hd.tw17088047866570459193 : True := trivial
theorem hd.tw2295870552580634182 : True := trivial
theorem hd.tw10919297434634762262 : True := trivial
theorem hd.tw11079593142295127227 : True := trivial
theorem hd.tw3922637787740509324 : True := trivial
theorem hd.tw11551083187376567056 : True := trivial
theorem hd.tw8977307856219701671 : True := trivial
theorem hd.tw9449672872311958731 : True := trivial
theorem hd.tw8134915037123179040 : True := trivial
theorem hd.tw11375277706881905925 : True := trivial
theorem hd.tw4817003022231809500 : True := trivial
theorem hd.tw4292457097857839397 : True := trivial
theorem hd.tw11117797201346649052 : True := trivial
theorem hd.tw9131607905817354932 : True := trivial
theorem hd.tw13475242022060392486 : True := trivial
theorem hd.tw8609351116199087170 : True := trivial
theorem hd.tw876933089483189297 : True := trivial
theorem hd.tw5009564483982726761 : True := trivial
theorem hd.tw15463257786427224491 : True := trivial
theorem hd.tw9153386212771759811 : True := trivial
theorem hd.tw7270182246851987180 : True := trivial
theorem hd.tw8244733829118024811 : True := trivial
theorem hd.tw3828038474966422129 : True := trivial
theorem hd.tw2658526732547218105 : True := trivial
theorem hd.tw9641152695372364146 : True := trivial
theorem hd.tw4402725079659364252 : True := trivial
theorem hd.tw6276725880618359904 : True := trivial
theorem hd.tw13994979335412520660 : True := trivial
theorem hd.tw6818987989461384207 : True := trivial
theorem hd.tw12631932088317031055 : True := trivial
theorem hd.tw3953601041324332601 : True := trivial
theorem hd.tw7152984921513172624 : True := trivial
theorem hd.tw2167537188350426706 : True := trivial
theorem hd.tw12940713784782232206 : True := trivial
theorem hd.tw825126770350376351 : True := trivial
theorem hd.tw4494801613693538912 : True := trivial
theorem hd.tw257007361410690125 : True := trivial
theorem hd.tw17772917993097084435 : True := trivial
theorem hd.tw5283464899586487735 : True := trivial
theorem hd.tw15643275761693703936 : True := trivial
theorem hd.tw8458067239894703972 : True := trivial
theorem hd.tw16970440968685349367 : True := trivial
theorem hd.tw13285133528070534704 : True := trivial
theorem hd.tw15790720579355451973 : True := trivial
theorem hd.tw6469175993241445255 : True := trivial
theorem hd.tw359313982320049065 : True := trivial
theorem hd.tw6186238094035137676 : True := trivial
theorem hd.tw13220430256171166289 : True := trivial
theorem hd.tw1425423193147277237 : True := trivial
theorem hd.tw10784824025267889561 : True := trivial
theorem hd.tw2845679848157327705 : True := trivial
theorem hd.tw1712922718373300912 : True := trivial
theorem hd.tw9533747618267967006 : True := trivial
theorem hd.tw18300207936620678264 : True := trivial
theorem hd.tw9087110039335098043 : True := trivial
theorem hd.tw14560493823538711346 : True := trivial
theorem hd.tw15948780112781908787 : True := trivial
theorem hd.tw16684818696116721337 : True := trivial
theorem hd.tw15527848837575444561 : True := trivial
theorem hd.tw6898005170327248138 : True := trivial
theorem hd.tw3646829019195819677 : True := trivial
theorem hd.tw6965799899956892507 : True := trivial
theorem hd.tw16171809288044610508 : True := trivial
theorem hd.tw8589211134812392127 : True := trivial
theorem hd.tw11389486352061984695 : True := trivial
theorem hd.tw12952509933414984302 : True := trivial
theorem hd.tw18322514126500204803 : True := trivial
theorem hd.tw10246146449241189800 : True := trivial
theorem hd.tw15367242080415987702 : True := trivial
theorem hd.tw7261450039545342454 : True := trivial
theorem hd.tw15083628210047938546 : True := trivial
theorem hd.tw10111801491309104144 : True := trivial
theorem hd.tw100483095206116625 : True := trivial
theorem hd.tw6060742912462422084 : True := trivial
theorem hd.tw13160604113216922460 : True := trivial
theorem hd.tw16011055738799735888 : True := trivial
theorem hd.tw1241404454085649124 : True := trivial
theorem hd.tw5486487638281291605 : True := trivial
theorem hd.tw4478166936697009375 : True := trivial
theorem hd.tw6136932545381038964 : True := trivial
theorem hd.tw8381844023166312768 : True := trivial
theorem hd.tw13929354066492186541 : True := trivial
theorem hd.tw7289634563603522867 : True := trivial
theorem hd.tw128412058910260475 : True := trivial
theorem hd.tw5247051413645994129 : True := trivial
theorem hd.tw5278057926702712004 : True := trivial
theorem hd.tw17975533764899295144 : True := trivial
theorem hd.tw3442329435671937591 : True := trivial
theorem hd.tw3694398316872202419 : True := trivial
theorem hd.tw8047900516022102942 : True := trivial
theorem hd.tw18176940659606848779 : True := trivial
theorem hd.tw5373601922739893978 : True := trivial
theorem hd.tw1409312971732116557 : True := trivial
theorem hd.tw4449123307109862055 : True := trivial
theorem hd.tw15207398651663016943 : True := trivial
theorem hd.tw3915529967508079626 : True := trivial
theorem hd.tw17562767543260142214 : True := trivial
theorem hd.tw13280443560766958183 : True := trivial
theorem hd.tw2442259710966052079 : True := trivial
theorem hd.tw13790719812936386609 : True := trivial
theorem hd.tw8210421348078903774 : True := trivial
theorem hd.tw13783031573616600631 : True := trivial
theorem hd.tw16920754564084929960 : True := trivial
theorem hd.tw6555240042291301478 : True := trivial
theorem hd.tw17130151131035750659 : True := trivial
theorem hd.tw1600037746751723098 : True := trivial
theorem hd.tw11709330566771433103 : True := trivial
theorem hd.tw8727321023445011275 : True := trivial
theorem hd.tw17989097746536338734 : True := trivial
theorem hd.tw5899666649113621702 : True := trivial
theorem hd.tw7754304195085646258 : True := trivial
theorem hd.tw9386895884608548742 : True := trivial
theorem hd.tw9577689765879766989 : True := trivial
theorem hd.tw8184699220007379433 : True := trivial
theorem hd.tw7746578258024575070 : True := trivial
theorem hd.tw14772383043592177042 : True := trivial
theorem hd.tw17491317419825422843 : True := trivial
theorem hd.tw17001982702790524580 : True := trivial
theorem hd.tw6293948785866598258 : True := trivial
theorem hd.tw14960593345356199642 : True := trivial
theorem hd.tw10949625832625181284 : True := trivial
theorem hd.tw15987713032478767096 : True := trivial
theorem hd.tw18166333605607142505 : True := trivial
theorem hd.tw17062030032774818151 : True := trivial
theorem hd.tw10098268173465320503 : True := trivial
theorem hd.tw5549315172176941698 : True := trivial
theorem hd.tw4182648748547736412 : True := trivial
theorem hd.tw4478964076566166474 : True := trivial
theorem hd.tw10752148897807903841 : True := trivial
theorem hd.tw16919406825032445293 : True := trivial
theorem hd.tw4643362625855044894 : True := trivial
theorem hd.tw16904818350239718627 : True := trivial
theorem hd.tw4993660671451451078 : True := trivial
theorem hd.tw10583446816852156582 : True := trivial
theorem hd.tw9702936160620672325 : True := trivial
theorem hd.tw6767318904944593275 : True := trivial
theorem hd.tw10424393626065333798 : True := trivial
theorem hd.tw14492701947808656938 : True := trivial
theorem hd.tw3941438180925939637 : True := trivial
theorem hd.tw5054737718236178183 : True := trivial
theorem hd.tw16722109127936396110 : True := trivial
theorem hd.tw14768889098011018680 : True := trivial
theorem hd.tw16772102934027710169 : True := trivial
theorem hd.tw190519026028168232 : True := trivial
theorem hd.tw3480954088277226078 : True := trivial
theorem hd.tw17893044597097874663 : True := trivial
theorem hd.tw1005483496087919985 : True := trivial
theorem hd.tw12744807935193187038 : True := trivial
theorem hd.tw11917015161858427179 : True := trivial
theorem hd.tw5292301768408028288 : True := trivial
theorem hd.tw5592360268479517082 : True := trivial
theorem hd.tw17948085552500728524 : True := trivial
theorem hd.tw2101469004524951375 : True := trivial
theorem hd.tw7512474625130614241 : True := trivial
theorem hd.tw8242931771332617035 : True := trivial
theorem hd.tw11249132867342737325 : True := trivial
theorem hd.tw6423634429210846174 : True := trivial
theorem hd.tw5987830557187376847 : True := trivial
theorem hd.tw12271959270614036898 : True := trivial
theorem hd.tw15833661619300960221 : True := trivial
theorem hd.tw14991384322417631237 : True := trivial
theorem hd.tw2386827423013361158 : True := trivial
theorem hd.tw7082855905992002993 : True := trivial
theorem hd.tw11953376511379268794 : True := trivial
theorem hd.tw5343241284826551009 : True := trivial
theorem hd.tw2457190517430149469 : True := trivial
theorem hd.tw9406673726873002282 : True := trivial
theorem hd.tw8052382678804489345 : True := trivial
theorem hd.tw3182187488490625086 : True := trivial
theorem hd.tw6990203504111849199 : True := trivial
theorem hd.tw9741134391959003819 : True := trivial
theorem hd.tw15852365999677673905 : True := trivial
theorem hd.tw13038990169509382042 : True := trivial
theorem hd.tw12070051907170230399 : True := trivial
theorem hd.tw9421340871869096474 : True := trivial
theorem hd.tw5148922909946612681 : True := trivial
theorem hd.tw4297731678662094536 : True := trivial
theorem hd.tw17895171251205151618 : True := trivial
theorem hd.tw8716120427605611371 : True := trivial
theorem hd.tw12936449754285732098 : True := trivial
theorem hd.tw9345929723534960622 : True := trivial
theorem hd.tw6627881031435992008 : True := trivial
theorem hd.tw8343274005884668182 : True := trivial
theorem hd.tw1800889605409440832 : True := trivial
theorem hd.tw8117029840178788049 : True := trivial
theorem hd.tw11232374478483605306 : True := trivial
theorem hd.tw17330945745186091897 : True := trivial
theorem hd.tw3350844169311001129 : True := trivial
theorem hd.tw12058812876911547015 : True := trivial
theorem hd.tw16477043939570097188 : True := trivial
theorem hd.tw13903934854276604550 : True := trivial
theorem hd.tw15595854959937240912 : True := trivial
theorem hd.tw17681399029576232318 : True := trivial
theorem hd.tw15529170255622000948 : True := trivial
theorem hd.tw17252143746492648416 : True := trivial
theorem hd.tw18291419657060728153 : True := trivial
theorem hd.tw17542962492245011380 : True := trivial
theorem hd.tw2000490053193787569 : True := trivial
theorem hd.tw1013155817946168525 : True := trivial
theorem hd.tw2323474266016966308 : True := trivial
theorem hd.tw4851647983119433812 : True := trivial
theorem hd.tw4172343393113369950 : True := trivial
theorem hd.tw4159134105002834734 : True := trivial
theorem hd.tw15279998641719260112 : True := trivial
theorem hd.tw11660266114150955751 : True := trivial
theorem hd.tw8269573656231971908 : True := trivial
theorem hd.tw9783614193127449063 : True := trivial
theorem hd.tw6868836192036940282 : True := trivial
theorem hd.tw6411954120941647267 : True := trivial
theorem hd.tw4971549296188076032 : True := trivial
theorem hd.tw10458740792067480800 : True := trivial
theorem hd.tw2216850387143573719 : True := trivial
theorem hd.tw4136554803537287180 : True := trivial
theorem hd.tw881544763273948857 : True := trivial
theorem hd.tw697623264460660564 : True := trivial
theorem hd.tw16157073509204512506 : True := trivial
theorem hd.tw17336936450418997793 : True := trivial
theorem hd.tw4377701919642642989 : True := trivial
theorem hd.tw9013056391748086436 : True := trivial
theorem hd.tw16064382804478563927 : True := trivial
theorem hd.tw12393119488966705847 : True := trivial
theorem hd.tw14478148883734587675 : True := trivial
theorem hd.tw307737655149646647 : True := trivial
theorem hd.tw7023726343779634624 : True := trivial
theorem hd.tw2951005344575393816 : True := trivial
theorem hd.tw5505005885091257285 : True := trivial
theorem hd.tw3085183777334472315 : True := trivial
theorem hd.tw10491609206876299696 : True := trivial
theorem hd.tw17447410573909459338 : True := trivial
theorem hd.tw9345676750909349944 : True := trivial
theorem hd.tw9557236495431379559 : True := trivial
theorem hd.tw12112201142124510154 : True := trivial
theorem hd.tw4115565904173853331 : True := trivial
theorem hd.tw2887051446865420828 : True := trivial
theorem hd.tw2327210489368252092 : True := trivial
theorem hd.tw11162318198679636149 : True := trivial
theorem hd.tw7317836474542784337 : True := trivial
theorem hd.tw9496365245306024149 : True := trivial
theorem hd.tw9908193460736022307 : True := trivial
theorem hd.tw4363365295628954845 : True := trivial
theorem hd.tw7676003278276379012 : True := trivial
theorem hd.tw13267510147771200024 : True := trivial
theorem hd.tw16029623286316568529 : True := trivial
theorem hd.tw3704167492566942397 : True := trivial
theorem hd.tw12769127236821124696 : True := trivial
theorem hd.tw14176624398918483544 : True := trivial
theorem hd.tw7628703163842673926 : True := trivial
theorem hd.tw10860895700388868024 : True := trivial
theorem hd.tw7366208706002141716 : True := trivial
theorem hd.tw10264135568141901301 : True := trivial
theorem hd.tw1088296927520436173 : True := trivial
theorem hd.tw9298403506768410418 : True := trivial
theorem hd.tw8493152586797012548 : True := trivial
theorem hd.tw11587034568685482758 : True := trivial
theorem hd.tw17377529257436501650 : True := trivial
theorem hd.tw8053944837975664402 : True := trivial
theorem hd.tw13047593935725612058 : True := trivial
theorem hd.tw5282504435634884242 : True := trivial
theorem hd.tw7369741819223213686 : True := trivial
theorem hd.tw9244321171653502345 : True := trivial
theorem hd.tw250903467453971090 : True := trivial
theorem hd.tw7519716089354478335 : True := trivial
theorem hd.tw8879563391730754479 : True := trivial
theorem hd.tw5978321128707920903 : True := trivial
theorem hd.tw701787995468756871 : True := trivial
theorem hd.tw243823211424636713 : True := trivial
theorem hd.tw10203026625882799534 : True := trivial
theorem hd.tw1359830224848277088 : True := trivial
theorem hd.tw10531373872144210542 : True := trivial
theorem hd.tw12861998865439983172 : True := trivial
theorem hd.tw7372000682148998216 : True := trivial
theorem hd.tw4091639524402994376 : True := trivial
theorem hd.tw13532847315355080253 : True := trivial
theorem hd.tw16009884308244765898 : True := trivial
theorem hd.tw9719896912496429819 : True := trivial
theorem hd.tw17177331786930743035 : True := trivial
theorem hd.tw1208734638264122097 : True := trivial
theorem hd.tw12337632362937886050 : True := trivial
theorem hd.tw12994019391074448376 : True := trivial
theorem hd.tw1535757262459896012 : True := trivial
theorem hd.tw12521463284412890351 : True := trivial
theorem hd.tw12070654863422294720 : True := trivial
theorem hd.tw2608437505485318709 : True := trivial
theorem hd.tw6038821095411175016 : True := trivial
theorem hd.tw18185175575083235020 : True := trivial
theorem hd.tw9983995961361265002 : True := trivial
theorem hd.tw2708950531961675432 : True := trivial
theorem hd.tw1331086792558400476 : True := trivial
theorem hd.tw922143313871775805 : True := trivial
theorem hd.tw15199589371867527261 : True := trivial
theorem hd.tw12023040214023829324 : True := trivial
theorem hd.tw13431754692932380062 : True := trivial
theorem hd.tw2922222751358710265 : True := trivial
theorem hd.tw8770659054964912022 : True := trivial
theorem hd.tw4478177076189095293 : True := trivial
theorem hd.tw13277076834127875243 : True := trivial
theorem hd.tw1413172679324656950 : True := trivial
theorem hd.tw6046454685291232161 : True := trivial
theorem hd.tw9155422001095189878 : True := trivial
theorem hd.tw7914949630228597729 : True := trivial
theorem hd.tw16194383521188589630 : True := trivial
theorem hd.tw14612060388864693735 : True := trivial
theorem hd.tw3816877163431070358 : True := trivial
theorem hd.tw12659318050587179527 : True := trivial
theorem hd.tw1882180444382439491 : True := trivial
theorem hd.tw8112040973832200146 : True := trivial
theorem hd.tw16853341256802265648 : True := trivial
theorem hd.tw11513968764499736323 : True := trivial
theorem hd.tw5657824000916062451 : True := trivial
theorem hd.tw7698358502638924378 : True := trivial
theorem hd.tw5138769234217329475 : True := trivial
theorem hd.tw8068729725432388964 : True := trivial
theorem hd.tw4225703048834024713 : True := trivial
theorem hd.tw2739504486584576224 : True := trivial
theorem hd.tw1589133516308662214 : True := trivial
theorem hd.tw5433107678231618845 : True := trivial
theorem hd.tw9325612240067072397 : True := trivial
theorem hd.tw18264374347568628810 : True := trivial
theorem hd.tw2595994805191909183 : True := trivial
theorem hd.tw15427206886491885616 : True := trivial
theorem hd.tw17471934795394947791 : True := trivial
theorem hd.tw8457440626546761165 : True := trivial
theorem hd.tw2134215046882385847 : True := trivial
theorem hd.tw16376525773666504680 : True := trivial
theorem hd.tw11814627755841444246 : True := trivial
theorem hd.tw15687388767607454252 : True := trivial
theorem hd.tw11672842613191775419 : True := trivial
theorem hd.tw9459050058782445324 : True := trivial
theorem hd.tw17325209927041812611 : True := trivial
theorem hd.tw5416991563250132298 : True := trivial
theorem hd.tw16037735763661986305 : True := trivial
theorem hd.tw16432713993328977331 : True := trivial
theorem hd.tw9990345226319884068 : True := trivial
theorem hd.tw6164396464334811476 : True := trivial
theorem hd.tw14906377314874228009 : True := trivial
theorem hd.tw10678649693572172417 : True := trivial
theorem hd.tw3219085151875037572 : True := trivial
theorem hd.tw7153062008950511462 : True := trivial
theorem hd.tw15179676742415161110 : True := trivial
theorem hd.tw11623594800819314181 : True := trivial
theorem hd.tw14438451200097066615 : True := trivial
theorem hd.tw3795277891434052102 : True := trivial
theorem hd.tw1563692795949630186 : True := trivial
theorem hd.tw13866372431405929976 : True := trivial
theorem hd.tw4788038989552484473 : True := trivial
theorem hd.tw2603259988358896889 : True := trivial
theorem hd.tw2999033326186475339 : True := trivial
theorem hd.tw15673258824015622330 : True := trivial
theorem hd.tw12050417470231563642 : True := trivial
theorem hd.tw2783992281797965187 : True := trivial
theorem hd.tw7927469264209771579 : True := trivial
theorem hd.tw9657781627882305391 : True := trivial
theorem hd.tw1452849714261714991 : True := trivial
theorem hd.tw5130813555471234732 : True := trivial
theorem hd.tw280609765759037681 : True := trivial
theorem hd.tw11319097763535126812 : True := trivial
theorem hd.tw6931407450589930559 : True := trivial
theorem hd.tw991583007596301734 : True := trivial
theorem hd.tw6184460063843016694 : True := trivial
theorem hd.tw6830512106363814048 : True := trivial
theorem hd.tw8545014587354053640 : True := trivial
theorem hd.tw18093812233618175256 : True := trivial
theorem hd.tw12364972598781006883 : True := trivial
theorem hd.tw12268275109542032366 : True := trivial
theorem hd.tw15043168886218598503 : True := trivial
theorem hd.tw7031273417212677730 : True := trivial
theorem hd.tw16154546982801380032 : True := trivial
theorem hd.tw11713075325732132258 : True := trivial
theorem hd.tw17919194246423945575 : True := trivial
theorem hd.tw4068527845204499245 : True := trivial
theorem hd.tw1865391376527767206 : True := trivial
theorem hd.tw12949589719889679912 : True := trivial
theorem hd.tw10170382586518783626 : True := trivial
theorem hd.tw2274498078352570744 : True := trivial
theorem hd.tw464777395874653626 : True := trivial
theorem hd.tw1147470481896660410 : True := trivial
theorem hd.tw6636792957720756321 : True := trivial
theorem hd.tw5961118342813265553 : True := trivial
theorem hd.tw13225837485096350037 : True := trivial
theorem hd.tw758273949599710562 : True := trivial
theorem hd.tw12173100003817136821 : True := trivial
theorem hd.tw13609717118414637909 : True := trivial
theorem hd.tw11251137523995926341 : True := trivial
theorem hd.tw11465210709893060100 : True := trivial
theorem hd.tw461538923250603899 : True := trivial
theorem hd.tw8965841893048198262 : True := trivial
theorem hd.tw16091413853298234908 : True := trivial
theorem hd.tw8516288146210602744 : True := trivial
theorem hd.tw8934143017859847078 : True := trivial
theorem hd.tw2304311442786299043 : True := trivial
theorem hd.tw15967140613478806237 : True := trivial
theorem hd.tw17574625026820762457 : True := trivial
theorem hd.tw8664936974563722654 : True := trivial
theorem hd.tw2195365466389143174 : True := trivial
theorem hd.tw17311223219408574766 : True := trivial
theorem hd.tw3309697970292668127 : True := trivial
theorem hd.tw7654286748164834634 : True := trivial
theorem hd.tw12685813987229840507 : True := trivial
theorem hd.tw15166520500009309586 : True := trivial
theorem hd.tw11319892378374348655 : True := trivial
theorem hd.tw1997569388931296116 : True := trivial
theorem hd.tw15813434630575017362 : True := trivial
theorem hd.tw10603584201595350602 : True := trivial
theorem hd.tw1506431575118746342 : True := trivial
theorem hd.tw10879034167726328663 : True := trivial
theorem hd.tw1580110805410547442 : True := trivial
theorem hd.tw11136197038861592535 : True := trivial
theorem hd.tw15344866539931968096 : True := trivial
theorem hd.tw2799067240506288376 : True := trivial
theorem hd.tw13315533130655954831 : True := trivial
theorem hd.tw10601615944963115059 : True := trivial
theorem hd.tw15048261121198461528 : True := trivial
theorem hd.tw162610821266807592 : True := trivial
theorem hd.tw12414669353804360901 : True := trivial
theorem hd.tw6407587892757256292 : True := trivial
theorem hd.tw9228397985900620932 : True := trivial
theorem hd.tw11054480109507316185 : True := trivial
theorem hd.tw6305734824756694309 : True := trivial
theorem hd.tw9960721518486171458 : True := trivial
theorem hd.tw4856431653887292112 : True := trivial
theorem hd.tw18103420901670897651 : True := trivial
theorem hd.tw541196102884509978 : True := trivial
theorem hd.tw6196171512934965099 : True := trivial
theorem hd.tw8351282476255451920 : True := trivial
theorem hd.tw10507497572311344420 : True := trivial
theorem hd.tw1836080755315867724 : True := trivial
theorem hd.tw4021928978595405253 : True := trivial
theorem hd.tw4702841417184801058 : True := trivial
theorem hd.tw12113243949977362033 : True := trivial
theorem hd.tw10117440562283002822 : True := trivial
theorem hd.tw5873113503399164460 : True := trivial
theorem hd.tw5629675986466331604 : True := trivial
theorem hd.tw10292235466723388172 : True := trivial
theorem hd.tw13770079208771991547 : True := trivial
theorem hd.tw17673860158736603733 : True := trivial
theorem hd.tw16634568088961857937 : True := trivial
theorem hd.tw16332348944364537037 : True := trivial
theorem hd.tw7494724483528729301 : True := trivial
theorem hd.tw17714235663813219645 : True := trivial
theorem hd.tw526207354791536317 : True := trivial
theorem hd.tw11801993109049149486 : True := trivial
theorem hd.tw6838551448383532254 : True := trivial
theorem hd.tw16211521421427940678 : True := trivial
theorem hd.tw212345690472687942 : True := trivial
theorem hd.tw3673020696563887462 : True := trivial
theorem hd.tw6291416237084387574 : True := trivial
theorem hd.tw15610959940260225430 : True := trivial
theorem hd.tw14294001040229213422 : True := trivial
theorem hd.tw3530705653197291679 : True := trivial
theorem hd.tw1603739661141634737 : True := trivial
theorem hd.tw14400467628812073631 : True := trivial
theorem hd.tw7120233287515763914 : True := trivial
theorem hd.tw519851828213033955 : True := trivial
theorem hd.tw12591134339009171964 : True := trivial
theorem hd.tw7721951785955056133 : True := trivial
theorem hd.tw11256106856564762260 : True := trivial
theorem hd.tw13893168526513508166 : True := trivial
theorem hd.tw13466754112058979494 : True := trivial
theorem hd.tw11652457597714270106 : True := trivial
theorem hd.tw4367231431732253908 : True := trivial
theorem hd.tw2480057099694739299 : True := trivial
theorem hd.tw10792051664901133789 : True := trivial
theorem hd.tw3404104791013757517 : True := trivial
theorem hd.tw11631947586910100387 : True := trivial
theorem hd.tw10403243965636340961 : True := trivial
theorem hd.tw14598272352848978880 : True := trivial
theorem hd.tw12487502673411948298 : True := trivial
theorem hd.tw8479784124755550697 : True := trivial
theorem hd.tw10258999931320997221 : True := trivial
theorem hd.tw3919010098100093602 : True := trivial
theorem hd.tw4315991029959535628 : True := trivial
theorem hd.tw8004679753235328684 : True := trivial
theorem hd.tw6615107907471364465 : True := trivial
theorem hd.tw3452082135128663414 : True := trivial
theorem hd.tw12832683148521936107 : True := trivial
theorem hd.tw17903497710992402801 : True := trivial
theorem hd.tw8317466277049474617 : True := trivial
theorem hd.tw2284436838669742495 : True := trivial
theorem hd.tw1118553966540926140 : True := trivial
theorem hd.tw17925215291927510665 : True := trivial
theorem hd.tw185848376630758926 : True := trivial
theorem hd.tw1588505670450824345 : True := trivial
theorem hd.tw17047115858639842297 : True := trivial
theorem hd.tw7540655947842036084 : True := trivial
theorem hd.tw4014540891139286612 : True := trivial
theorem hd.tw15508949281206285077 : True := trivial
theorem hd.tw14705683404202351889 : True := trivial
theorem hd.tw11213053971927718326 : True := trivial
theorem hd.tw13217225542625558698 : True := trivial
theorem hd.tw16056359734778111409 : True := trivial
theorem hd.tw6545403380812914513 : True := trivial
theorem hd.tw395138700845864316 : True := trivial
theorem hd.tw732345407407602841 : True := trivial
theorem hd.tw12399718760709695909 : True := trivial
theorem hd.tw13828106393651249627 : True := trivial
theorem hd.tw9277588360372424766 : True := trivial
theorem hd.tw15578025631644234493 : True := trivial
theorem hd.tw11151547217846952531 : True := trivial
theorem hd.tw3259873300814134281 : True := trivial
theorem hd.tw189712035060473897 : True := trivial
theorem hd.tw6082411064634330575 : True := trivial
theorem hd.tw2114630138375439770 : True := trivial
theorem hd.tw226724450230711188 : True := trivial
theorem hd.tw8735263284916673568 : True := trivial
theorem hd.tw7752569895197466512 : True := trivial
theorem hd.tw1439246655266547700 : True := trivial
theorem hd.tw6598312636042714100 : True := trivial
theorem hd.tw13566260322249332789 : True := trivial
theorem hd.tw11754176132448286083 : True := trivial
theorem hd.tw16178712458983371728 : True := trivial
theorem hd.tw3434918251397683217 : True := trivial
theorem hd.tw6442067068224118133 : True := trivial
theorem hd.tw11663481321943121269 : True := trivial
theorem hd.tw663384727985864361 : True := trivial
theorem hd.tw13322179722446271537 : True := trivial
theorem hd.tw16412773359747925120 : True := trivial
theorem hd.tw12127338746724423809 : True := trivial
theorem hd.tw1760603350576429475 : True := trivial
theorem hd.tw12459740579856956213 : True := trivial
theorem hd.tw17213754286329925777 : True := trivial
theorem hd.tw16302227732802510677 : True := trivial
theorem hd.tw7610815399733428385 : True := trivial
theorem hd.tw1666387254794493845 : True := trivial
theorem hd.tw9427301549700849589 : True := trivial
theorem hd.tw12602439190401603521 : True := trivial
theorem hd.tw12901994302517312135 : True := trivial
theorem hd.tw18245042118932799458 : True := trivial
theorem hd.tw11210553801493137410 : True := trivial
theorem hd.tw1848646778235469078 : True := trivial
theorem hd.tw7379015992945566340 : True := trivial
theorem hd.tw15042006015671813226 : True := trivial
theorem hd.tw16473244170626142550 : True := trivial
theorem hd.tw14667805832236412624 : True := trivial
theorem hd.tw6906073325868019850 : True := trivial
theorem hd.tw8959176491354863721 : True := trivial
theorem hd.tw7752767780024739350 : True := trivial
theorem hd.tw16155205043701107222 : True := trivial
theorem hd.tw17577478241444706838 : True := trivial
theorem hd.tw17420951861521290806 : True := trivial
theorem hd.tw12131494931117144662 : True := trivial
theorem hd.tw5190246844813560578 : True := trivial
theorem hd.tw7080932558258925280 : True := trivial
theorem hd.tw10905682514733158466 : True := trivial
theorem hd.tw15616948245753086127 : True := trivial
theorem hd.tw5732804406350252772 : True := trivial
theorem hd.tw15615537253650120727 : True := trivial
theorem hd.tw14029546391885035639 : True := trivial
theorem hd.tw13066319289922817542 : True := trivial
theorem hd.tw4383666589626881386 : True := trivial
theorem hd.tw5480042469492414594 : True := trivial
theorem hd.tw6998783941825042932 : True := trivial
theorem hd.tw17583924267553061668 : True := trivial
theorem hd.tw242841246431481386 : True := trivial
theorem hd.tw15416985209724490359 : True := trivial
theorem hd.tw16858285156579221889 : True := trivial
theorem hd.tw7292484366425897655 : True := trivial
theorem hd.tw9132557439983319658 : True := trivial
theorem hd.tw8960069828448710407 : True := trivial
theorem hd.tw2788664435532181463 : True := trivial
theorem hd.tw15946388913382835224 : True := trivial
theorem hd.tw8684328023851190084 : True := trivial
theorem hd.tw5513025101015932971 : True := trivial
theorem hd.tw5562173858411828344 : True := trivial
theorem hd.tw3789350110615891812 : True := trivial
theorem hd.tw17330132731328240911 : True := trivial
theorem hd.tw262745018181394680 : True := trivial
theorem hd.tw17672654358674132775 : True := trivial
theorem hd.tw4990156530697904881 : True := trivial
theorem hd.tw15759970867653108152 : True := trivial
theorem hd.tw7028611270464810887 : True := trivial
theorem hd.tw18241275227582772068 : True := trivial
theorem hd.tw7191455744419660376 : True := trivial
theorem hd.tw4272726840584523970 : True := trivial
theorem hd.tw1033889070964956483 : True := trivial
theorem hd.tw9731375825926819010 : True := trivial
theorem hd.tw8587404781116728655 : True := trivial
theorem hd.tw8191903926673212241 : True := trivial
theorem hd.tw17628472586750557451 : True := trivial
theorem hd.tw8356816923877370021 : True := trivial
theorem hd.tw7355570028127101125 : True := trivial
theorem hd.tw13342606739435360313 : True := trivial
theorem hd.tw9170477692918782315 : True := trivial
theorem hd.tw16053994301053490033 : True := trivial
theorem hd.tw2040990291671593033 : True := trivial
theorem hd.tw7540741092611519060 : True := trivial
theorem hd.tw15213948185873263833 : True := trivial
theorem hd.tw5716766192118558609 : True := trivial
theorem hd.tw2502866573005156581 : True := trivial
theorem hd.tw17054507655720011243 : True := trivial
theorem hd.tw313027258313007627 : True := trivial
theorem hd.tw1222794163293265305 : True := trivial
theorem hd.tw7534799579077118603 : True := trivial
theorem hd.tw9430268157657104642 : True := trivial
theorem hd.tw6759412095888398321 : True := trivial
theorem hd.tw12350410155528471161 : True := trivial
theorem hd.tw13919464512627920130 : True := trivial
theorem hd.tw10743916045514856203 : True := trivial
theorem hd.tw9748044761591592747 : True := trivial
theorem hd.tw17183224562656869120 : True := trivial
theorem hd.tw8081886968326746073 : True := trivial
theorem hd.tw2391449824757734642 : True := trivial
theorem hd.tw8025032847418708242 : True := trivial
theorem hd.tw7854228177987924090 : True := trivial
theorem hd.tw5902613922787404954 : True := trivial
theorem hd.tw16138627921320673191 : True := trivial
theorem hd.tw402640490398009360 : True := trivial
theorem hd.tw9499510787657705874 : True := trivial
theorem hd.tw960944832710211464 : True := trivial
theorem hd.tw4523669819894539328 : True := trivial
theorem hd.tw6264232113106981867 : True := trivial
theorem hd.tw5366084841770067474 : True := trivial
theorem hd.tw18343703819029505601 : True := trivial
theorem hd.tw17843490464661113860 : True := trivial
theorem hd.tw12647368939536790636 : True := trivial
theorem hd.tw4086058157674990017 : True := trivial
theorem hd.tw13642289790063256904 : True := trivial
theorem hd.tw7598622570094877466 : True := trivial
theorem hd.tw12092154237167983948 : True := trivial
theorem hd.tw3759623122121258479 : True := trivial
theorem hd.tw2930668341846507884 : True := trivial
theorem hd.tw1610171440888473627 : True := trivial
theorem hd.tw14859038896228082724 : True := trivial
theorem hd.tw13372043803930879067 : True := trivial
theorem hd.tw10844753989422098599 : True := trivial
theorem hd.tw15103106377680225435 : True := trivial
theorem hd.tw6957150274394394060 : True := trivial
theorem hd.tw10465514089279642386 : True := trivial
theorem hd.tw7891253978561527248 : True := trivial
theorem hd.tw10525666975642140466 : True := trivial
theorem hd.tw15675198926951892251 : True := trivial
theorem hd.tw6482722132109649516 : True := trivial
theorem hd.tw18268791191939849864 : True := trivial
theorem hd.tw10024716035694756283 : True := trivial
theorem hd.tw7525542149764818722 : True := trivial
theorem hd.tw7296583596125217682 : True := trivial
theorem hd.tw2808349399557158395 : True := trivial
theorem hd.tw1097998534492414930 : True := trivial
theorem hd.tw14120982254508448379 : True := trivial
theorem hd.tw6438293893037913957 : True := trivial
theorem hd.tw17588044629489971554 : True := trivial
theorem hd.tw14896477498954680388 : True := trivial
theorem hd.tw1792636949448641307 : True := trivial
theorem hd.tw8990313861142287110 : True := trivial
theorem hd.tw7492773218913965947 : True := trivial
theorem hd.tw15642763164714097627 : True := trivial
theorem hd.tw17429513623812275283 : True := trivial
theorem hd.tw8538877666451538035 : True := trivial
theorem hd.tw13365295217650922812 : True := trivial
theorem hd.tw8652628183442184457 : True := trivial
theorem hd.tw17491280204586788870 : True := trivial
theorem hd.tw4706079058837389440 : True := trivial
theorem hd.tw4642405928176397000 : True := trivial
theorem hd.tw9184186324627900627 : True := trivial
theorem hd.tw7085514621470718492 : True := trivial
theorem hd.tw3451239065008710300 : True := trivial
theorem hd.tw17599816209265215132 : True := trivial
theorem hd.tw15837987909243819085 : True := trivial
theorem hd.tw1194904439430580092 : True := trivial
theorem hd.tw11912922877643110818 : True := trivial
theorem hd.tw14852329139284432860 : True := trivial
theorem hd.tw10404513684093684653 : True := trivial
theorem hd.tw17986969038992634876 : True := trivial
theorem hd.tw13289513938125300765 : True := trivial
theorem hd.tw15992342658441690333 : True := trivial
theorem hd.tw17454471701868102899 : True := trivial
theorem hd.tw5238241317806426387 : True := trivial
theorem hd.tw6079173187612997037 : True := trivial
theorem hd.tw2867327485932766208 : True := trivial
theorem hd.tw16868993833207775613 : True := trivial
theorem hd.tw6924109203229866365 : True := trivial
theorem hd.tw15152743547302097792 : True := trivial
theorem hd.tw14462709497994964445 : True := trivial
theorem hd.tw5608270528595127837 : True := trivial
theorem hd.tw16945582573551092051 : True := trivial
theorem hd.tw7763873220885509757 : True := trivial
theorem hd.tw16828841361933241965 : True := trivial
theorem hd.tw6184208073178115725 : True := trivial
theorem hd.tw16006246977917349235 : True := trivial
theorem hd.tw13531707123254989501 : True := trivial
theorem hd.tw4870687313549177768 : True := trivial
theorem hd.tw10738003575532504788 : True := trivial
theorem hd.tw845060206244984605 : True := trivial
theorem hd.tw5036846961687405229 : True := trivial
theorem hd.tw3229955645248102723 : True := trivial
theorem hd.tw3484992998616243462 : True := trivial
theorem hd.tw1382963296337349011 : True := trivial
theorem hd.tw14984183105004643987 : True := trivial
theorem hd.tw7793673504863384051 : True := trivial
theorem hd.tw16259696140248634718 : True := trivial
theorem hd.tw13638418597567726942 : True := trivial
theorem hd.tw5363564295841288755 : True := trivial
theorem hd.tw3419581819265744254 : True := trivial
theorem hd.tw18103342009636024947 : True := trivial
theorem hd.tw10614716105012338702 : True := trivial
theorem hd.tw13092906067662860646 : True := trivial
theorem hd.tw9763420282994701918 : True := trivial
theorem hd.tw7510230149288206974 : True := trivial
theorem hd.tw14980023328507725902 : True := trivial
theorem hd.tw14620637471214046174 : True := trivial
theorem hd.tw10543509907540572799 : True := trivial
theorem hd.tw11011131195910976488 : True := trivial
theorem hd.tw17076082267592564974 : True := trivial
theorem hd.tw4654797750381630734 : True := trivial
theorem hd.tw5505332120971382143 : True := trivial
theorem hd.tw12611767792052310623 : True := trivial
theorem hd.tw2781682124601125471 : True := trivial
theorem hd.tw442638132926106271 : True := trivial
theorem hd.tw4015398097383911347 : True := trivial
theorem hd.tw5245234834050458271 : True := trivial
theorem hd.tw8789358453043137523 : True := trivial
theorem hd.tw13409441903868389331 : True := trivial
theorem hd.tw9077708301081682751 : True := trivial
theorem hd.tw2195353527028557661 : True := trivial
set_option Elab.async true in
set_option maxHeartbeats 8000000 in
theorem hd : PySem.Challenge.rw_oj0035_01.Holds := by
  w_on
  o_law
  k_head
  (case hw => w_witness2)
  exact lawT
end Mine
theorem PySem.Challenge.cw_oj0035_01_holds : PySem.Challenge.rw_oj0035_01.Holds :=
  Mine.hd
