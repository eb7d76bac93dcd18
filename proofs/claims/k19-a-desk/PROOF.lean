import PyProof.Rows.All
import Wide.All
import OpenK.AllK
import Wide.FinOn
import HandS.Nested
import HandS.Lambda
import HandS.Base
import HandS.Call
import HandS.List
import HandS.Comp
import HandS.Dict
import HandS.Iter
import HandS.Text
import HandS.Exc
import HandS.ExcOwn
import HandS.TryOnly
import HandS.TryMany
import HandS.EndTab
import HandS.Words
import HandS.WordsList
import HandS.WordsDict
import HandS.WordsExc
import HandS.Conv
import HandS.Zip
import HandS.TupAny
import HandS.Deep
import HandS.Wide
import KE.DataMinMax
import HandS.Style
import HandS.Flow
import HandS.Head0
import HandS.Head1
import HandS.Head2
import HandS.HeadEnd
import HandS.HeadHook1
import HandS.HeadHook2
import HandS.HeadHook3
import HandS.HeadHook4
import HandS.HeadWalk
import HandS.NestedK
import HandS.GenOver
import PyProof.ConsumeS
import PyProof.SeqWrite
import PyProof.MaxThree
import HandS.More
import HandS.Small
import KE.SortData
import HandS.ListItems
import KE.KDictZip
import KE.KDictSum
import KE.SortKeyHeap
import HandS.DictComp
import HandS.Strs
import PyProof.SeqIndex
import KE.GoesMore
import PyProof.EnumMake
import HandS.DeepEq
import PyProof.P3In
import KE.DataMinKey
import KE.KMinKey
import HandS.SortKw
import KE.DataCmp
import PyProof.RangeFor
import HandS.Remove
import KE.KEqNest
import PyProof.NeKinds
import HandS.DictTup
import KE.KItemsList
import HandS.Rev
import KE.KExcSuper
import HandS.ExcInit
import HandS.ExcField
import HandS.ExcInitHot
import KE.KDictPairs
import KE.KDictDisplayH
import HandS.SuiteRaise
import HandS.RaiseMore
import HandS.ExcIs
import PySem.Challenge.RW_millhall_k19_a_desk
set_option Elab.async false
set_option linter.all false
set_option maxRecDepth 100000
set_option maxHeartbeats 2000000
namespace DL
open PySem PySem.Spec PyProof.Rows L2 NdefX LamX
/-- a code object that has a table of its own -/
def CodeK (c : Addr) (q : Str) (P : Addr) : HO := .ext fun h => (∃ (oc : Obj) (vs : Array Value) (t : Tok), h.get? c = some oc ∧ oc.data = .fields vs ∧ vs[1]? = some (.str q t)) ∧ PySem.W.CodeHd h c P
theorem codeK_ne {c P : Addr} {q : Str} (ps : Array Value) : CodeK c q P ≠ .tbl ps := fun z => by
  unfold CodeK at z
  cases z
/-- a code object by its name, with or without a table that is known -/
def CodeA (H : Hp) (c : Addr) (q : Str) : Prop := H c = some (CodeO c q) ∨ ∃ P, H c = some (CodeK c q P)
theorem CodeA.ext {H H' : Hp} {c : Addr} {q : Str} (e : CodeA H c q) (k : ∀ o, H c = some o → (∀ ps, o ≠ .tbl ps) → H' c = some o) : CodeA H' c q := by
  rcases e with e | ⟨P, e⟩
  · exact .inl (k _ e codeO_ne)
  · exact .inr ⟨P, k _ e codeK_ne⟩
theorem CodeA.some {H : Hp} {c : Addr} {q : Str} (e : CodeA H c q) : ∃ o, H c = some o ∧ (∀ ps, o ≠ .tbl ps) ∧ (∃ f, o = .ext f) := by
  rcases e with e | ⟨P, e⟩
  · exact ⟨_, e, codeO_ne, _, rfl⟩
  · exact ⟨_, e, codeK_ne, _, rfl⟩
/-- tables; kq: the code object of this name has a table of its own, whose names are kn; own: the running code object that has one -/
structure Tbs where
  l : List NTab
  kq : Option Str := none
  kn : Nat → Nat → Str := fun _ _ => ""
  own : Option (Addr × Addr × Str) := none
/-- what a table tells of a place that bears the name q -/
def Ent (T : Tbs) (H : Hp) (q : Str) (cv : Value) : Prop := ∃ c, cv = .ref c ∧ ((T.kq ≠ some q ∧ H c = some (CodeO c q)) ∨ (T.kq = some q ∧ ∃ P, H c = some (CodeK c q P) ∧ (∀ p ∈ T.l, p.1 = P → p.2 = T.kn) ∧ TabN H P T.kn))
def TabsX (T : Tbs) (H : Hp) : Prop := (∀ p ∈ T.l, ∃ ps : Array Value, H p.1 = some (.tbl ps) ∧ TriplesOk ps.toList ∧ ∀ (pos : Pos) (cv : Value), codeAmong pos ps.toList = some cv → Ent T H (p.2 pos.line pos.col) cv) ∧ ∀ c P q, T.own = some (c, P, q) → H c = some (CodeK c q P)
/-- what stands at pos in the table at P bears the name q -/
def HasT (T : Tbs) (P : Addr) (q : Str) (pos : Pos) : Prop := ∃ nm, (P, nm) ∈ T.l ∧ nm pos.line pos.col = q ∧ (∀ p ∈ T.l, p.1 = P → p.2 = nm) ∧ T.kq ≠ some q
theorem Ent.ext {T : Tbs} {H H' : Hp} {q : Str} {cv : Value} (e : Ent T H q cv) (k : ∀ b o, H b = some o → H' b = some o) : Ent T H' q cv := by
  obtain ⟨c, h1, h2⟩ := e
  refine ⟨c, h1, ?_⟩
  rcases h2 with ⟨h2, h3⟩ | ⟨h2, P, h3, h4, h5⟩
  · exact .inl ⟨h2, k _ _ h3⟩
  · exact .inr ⟨h2, P, k _ _ h3, h4, h5.ext k⟩
theorem TabsX.ext {T : Tbs} {H H' : Hp} (t : TabsX T H) (e : ∀ b o, H b = some o → H' b = some o) : TabsX T H' := by
  refine ⟨fun p hp => ?_, fun c P q h => e _ _ (t.2 c P q h)⟩
  obtain ⟨ps, h1, h2, h3⟩ := t.1 p hp
  exact ⟨ps, e _ _ h1, h2, fun pos cv hc => (h3 pos cv hc).ext e⟩
section
variable {T : Tbs} {H : Hp} {P c' : Addr} {q : Str} {pos : Pos} {ps : Array Value}
/-- one more code object at P; o: what it is -/
theorem tab_grow {o : HO} {H' : Hp} (hT : TabsX T H) (hP : H P = some (.tbl ps)) (nC : H c' = none) (h : ∃ nm, (P, nm) ∈ T.l ∧ nm pos.line pos.col = q ∧ ∀ p ∈ T.l, p.1 = P → p.2 = nm)
    (hx : ∀ b, b ≠ P → ∀ u, H b = some u → H' b = some u) (hP2 : H' P = some (.tbl (ps ++ #[rawInt pos.line, rawInt pos.col, .ref c']))) (ho : H' c' = some o) (hn : ∀ ps, o ≠ .tbl ps)
    (he : Ent T H' q (.ref c')) (hk : T.kq ≠ some q → o = CodeO c' q) (hkk : T.kq = some q → ∀ nm, (P, nm) ∈ T.l → nm = T.kn → False) : TabsX T H' := by
  obtain ⟨nm, h1, h2, h3⟩ := h
  have keep : ∀ {b u}, H b = some u → (∀ ps, u ≠ .tbl ps) → H' b = some u := fun {b u} e n => hx b (fun z => by
    rw [z, hP] at e
    exact n ps (Option.some.inj e).symm) u e
  have kid : ∀ {P2}, (∀ p ∈ T.l, p.1 = P2 → p.2 = T.kn) → TabN H P2 T.kn → TabN H' P2 T.kn := fun {P2} hk2 t => by
    obtain ⟨qs, g1, g2, g3⟩ := t
    have old : ∀ {cv : Value} {pos : Pos}, (∃ c, cv = .ref c ∧ H c = some (CodeO c (T.kn pos.line pos.col))) → ∃ c, cv = .ref c ∧ H' c = some (CodeO c (T.kn pos.line pos.col)) := fun ⟨c, e1, e2⟩ => ⟨c, e1, keep e2 codeO_ne⟩
    by_cases hb : P2 = P
    · subst hb
      rw [hP] at g1
      cases g1
      have en : nm = T.kn := hk2 _ h1 rfl
      have kq : T.kq ≠ some q := fun z => hkk z nm h1 en
      refine ⟨_, hP2, by simpa using PySem.TriplesOk_snoc _ _ _ _ g2, fun p' cv hcv => ?_⟩
      have hcv : codeAmong p' (ps.toList ++ [rawInt pos.line, rawInt pos.col, .ref c']) = some cv := by simpa using hcv
      rcases among_app2 _ g2 hcv with z | ⟨z1, z2, z3⟩
      · exact old (g3 p' cv z)
      · refine ⟨c', z1, ?_⟩
        rw [ho, hk kq, ← h2, en, ← z2, ← z3]
    · exact ⟨qs, hx _ hb _ g1, g2, fun p' cv hcv => old (g3 p' cv hcv)⟩
  have ent : ∀ {q' : Str} {cv : Value}, Ent T H q' cv → Ent T H' q' cv := fun {q' cv} e => by
    obtain ⟨c, e1, e2⟩ := e
    refine ⟨c, e1, ?_⟩
    rcases e2 with ⟨e2, e3⟩ | ⟨e2, P2, e3, e4, e5⟩
    · exact .inl ⟨e2, keep e3 codeO_ne⟩
    · exact .inr ⟨e2, P2, keep e3 codeK_ne, e4, kid e4 e5⟩
  refine ⟨fun p hp => ?_, fun c P2 q2 h => keep (hT.2 c P2 q2 h) codeK_ne⟩
  obtain ⟨qs, g1, g2, g3⟩ := hT.1 p hp
  by_cases hb : p.1 = P
  · have e2 := h3 p hp hb
    rw [hb] at g1
    rw [hP] at g1
    cases g1
    refine ⟨ps ++ #[rawInt pos.line, rawInt pos.col, .ref c'], by rw [hb]; exact hP2, by simpa using PySem.TriplesOk_snoc _ _ _ _ g2, fun p' cv hcv => ?_⟩
    have hcv : codeAmong p' (ps.toList ++ [rawInt pos.line, rawInt pos.col, .ref c']) = some cv := by simpa using hcv
    rcases among_app2 _ g2 hcv with z | ⟨z1, z2, z3⟩
    · exact ent (g3 p' cv z)
    · rw [z1, e2, ← z2, ← z3, h2]
      exact he
  · exact ⟨qs, hx _ hb _ g1, g2, fun p' cv hcv => ent (g3 p' cv hcv)⟩
/-- one more code object -/
theorem tabN_grow (hT : TabsX T H) (h : HasT T P q pos) (hP : H P = some (.tbl ps)) (nC : H c' = none) :
    ExtN H (upd (upd H P (.tbl (ps ++ #[rawInt pos.line, rawInt pos.col, .ref c']))) c' (CodeO c' q)) ∧ TabsX T (upd (upd H P (.tbl (ps ++ #[rawInt pos.line, rawInt pos.col, .ref c']))) c' (CodeO c' q)) := by
  obtain ⟨nm, h1, h2, h3, h4⟩ := h
  refine ⟨fun b o e n => ?_, tab_grow (pos := pos) (o := CodeO c' q) hT hP nC ⟨nm, h1, h2, h3⟩ (fun b hb u e => ?_) ?_ upd_same codeO_ne ⟨c', rfl, .inl ⟨h4, upd_same⟩⟩ (fun _ => rfl) (fun z => absurd z h4)⟩
  · have b1 : b ≠ c' := ne_of_none e nC
    have b2 : b ≠ P := fun z => by
      rw [z, hP] at e
      exact n ps (Option.some.inj e).symm
    rw [upd_ne b1, upd_ne b2]
    exact e
  · rw [upd_ne (ne_of_none e nC), upd_ne hb]
    exact e
  · rw [upd_ne (ne_of_none hP nC), upd_same]
/-- what is found there -/
theorem tabN_at (hT : TabsX T H) (h : HasT T P q pos) : ∃ ps, H P = some (.tbl ps) ∧ TriplesOk ps.toList ∧ ∀ cv, codeAmong pos ps.toList = some cv → ∃ c, cv = .ref c ∧ H c = some (CodeO c q) := by
  obtain ⟨nm, h1, h2, h3, h4⟩ := h
  obtain ⟨ps, g1, g2, g3⟩ := hT.1 _ h1
  refine ⟨ps, g1, g2, fun cv e => ?_⟩
  obtain ⟨c, e1, e2⟩ := g3 pos cv e
  rw [show (P, nm).2 pos.line pos.col = q from h2] at e2
  rcases e2 with ⟨_, e2⟩ | ⟨e2, _⟩
  · exact ⟨c, e1, e2⟩
  · exact absurd e2 h4
end
section
variable {X : Cx} {pins : List (Addr × Obj)} {σ : L2.St} {H : Hp} {s : Shared}
/-- a lambda is made -/
theorem lam_makeN {T : Tbs} {c P : Addr} {params : Arguments} {body : Expr} {scope : Scope} {pos : Pos} {E : Value → Shared → Prop} {Q : Value → Shared → Prop} (I : Inv X pins σ H s) (TB : TabB X.base X.mg c P) (hcode : X.env.code = .ref c)
    (ht : HasT T P (X.env.qual ++ "<lambda>") pos) (hT : TabsX T H) (hdef : defaultsOf params X.env = ([], [])) (hfree : ∀ y ∈ scope.names, y.2 = .free → ∃ c, X.env.cells.lookup y.1 = some c)
    (h : ∀ (f c' : Addr) (pm ctv : Value) (H1 : Hp) (s' : Shared), Inv X pins σ H1 s' → ExtN H H1 → TabsX T H1 →
      s'.heap.get? f = some (PySem.W.kla_obj "<lambda>" (X.env.qual ++ "<lambda>") params body scope (cloFrom X.env.cells scope.names []) pm c' ctv) → H1 f = none → f ∉ frs X.stack → H1 c' = some (CodeO c' (X.env.qual ++ "<lambda>")) → Q (.ref f) s') :
    wpAny (model X.prog X.w) X.A (eval (.Lambda params body scope pos) X.env) Q E s := by
  obtain ⟨ps, hP, hok, ha⟩ := tabN_at hT ht
  have gP : s.heap.get? P = some { cls := .none, data := .fields ps } := I.hok P _ hP
  have free : ∀ f, s.heap.objs.size ≤ f → f ∉ frs X.stack := fun f hf z => by
    rcases List.mem_cons.mp (I.stkSub _ z) with e | e
    · rw [e] at hf
      exact absurd (Nat.lt_of_lt_of_le I.lt hf) (Nat.lt_irrefl _)
    · exact I.nofs hf e
  have bl := TB.bm.keeps I.bk
  have cd := TB.code.keeps I.bk
  have gl := I.mod.glob.keeps I.bk
  refine PySem.W.kla_eval hdef ?_
  cases hc : codeAmong pos ps.toList with
  | some cv =>
    obtain ⟨c', rfl, hco⟩ := ha cv hc
    refine PySem.W.kla_makeFunctionHit (mg := X.mg) (closure_ok hfree) I.ok.glob gl hcode cd gP hok hc bl fun ctv h' tk kp hsz => ?_
    exact h _ c' _ ctv H _ (I.kept fun b o e => Heap.get?_push_of_some _ (kp b o e)) (ExtN.refl H) hT (Heap.get?_push_size _ rfl) (I.hok.fresh hsz) (free _ hsz) hco
  | none =>
    refine PySem.W.kla_makeFunction (mg := X.mg) (closure_ok hfree) I.ok.glob gl hcode cd gP hok hc TB.gP bl fun c' ctv h' tk kp hge hlt rec tb => ?_
    obtain ⟨d, oc, vs, t, ed, e1, e2, e3⟩ := rec
    cases ed
    have nC : H c' = none := I.hok.fresh hge
    have big : s.heap.objs.size ≤ h'.objs.size := Nat.le_trans hge (Nat.le_of_lt hlt)
    obtain ⟨g1, g2⟩ := tabN_grow hT ht hP nC
    have J := inv_table (q := X.env.qual ++ "<lambda>") (t' := tk) (more := #[rawInt pos.line, rawInt pos.col, .ref c']) (h' := h'.push (PySem.W.kla_obj "<lambda>" (X.env.qual ++ "<lambda>") params body scope (cloFrom X.env.cells scope.names []) ((X.mg "__name__").getD .none) c' ctv)) I hP
      (fun b o n e => Heap.get?_push_of_some _ (kp b o n e)) (Heap.get?_push_of_some _ tb) hge ⟨oc, vs, t, Heap.get?_push_of_some _ e1, e2, e3⟩
    have nf : upd (upd H P (.tbl (ps ++ #[rawInt pos.line, rawInt pos.col, .ref c']))) c' (CodeO c' (X.env.qual ++ "<lambda>")) h'.objs.size = none := by
      rw [upd_ne (Nat.ne_of_gt hlt), upd_ne (Nat.ne_of_gt (Nat.lt_of_lt_of_le (Heap.lt_size gP) big))]
      exact I.hok.fresh big
    exact h _ c' _ ctv _ _ J g1 g2 (Heap.get?_push_size _ rfl) nf (free _ big) upd_same
end
def tLamN (T : Tbs) (TT : (XK → Hp → VK → Prop) → Hp → VK → Prop) (t : XK → TE) : TE := fun σ H Q => TabsX T H ∧ ∀ H1, ExtN H H1 → TabsX T H1 → TT (fun E H' Q' => t E σ H' Q') H1 Q
section
variable {X : Cx}
/-- x(lambda: body) -/
theorem pe_lamN {T : Tbs} {TT : (XK → Hp → VK → Prop) → Hp → VK → Prop} {x a : Str} {g c P : Addr} {k : Nat} {pg : Arguments} {bg : List Stmt} {sg : Scope} {dV kV doc pm cdv ct oc : Value} {an od : Option Addr} {osl : Array (Option Value)} {Ng : List Str}
    {params : Arguments} {body : Expr} {scope : Scope} {t : XK → TE} {p lpos pos : Pos} (hg : Gl X x) (hm : X.mg x = some (.ref g)) (hk : PySem.W.keepIn X.K (.ref g) = true)
    (lk : X.K.lookup g = some ⟨oc, od, .func (PySem.W.fnOf x x pg bg sg dV kV doc pm an cdv ct), osl⟩) (hcg : PySem.W.codeIn X.K cdv x = true) (hb : L2.Binds X.K (PySem.W.fnOf x x pg bg sg dV kV doc pm an cdv ct) [a] []) (Sg : FnScope Ng [a] sg) (hNg : Ng[0]? = some a) (hva : Vis sg a)
    (hG : GivesTo X Ng x sg g cdv bg a (X.env.qual ++ "<lambda>") TT)
    (TB : TabB X.base X.mg c P) (hcode : X.env.code = .ref c) (ht : HasT T P (X.env.qual ++ "<lambda>") lpos) (hr : Room (k + 2) X.A) (L : LamS X.env.scope scope) (hdef : defaultsOf params X.env = ([], []))
    (hbind : ∀ (q : Str) (cl : List (Str × Addr)) (pm cv ctv : Value), bindArgs (PySem.W.kla_fn "<lambda>" q params body scope cl pm cv ctv) ⟨[], []⟩ = pure [])
    (hbody : ∀ (A : Around) (outer : List Env) (s : Shared) (H : Hp) (E : XK) (f c' : Addr), Room k (A.deeper (lamEnv X scope s.heap.objs.size f c')) → PE (lamCx X A outer s H E scope f c') body (t E))
    (hdb : (x == ("__debug__" : Str)) = false := by decide) (hd : (a == ("__debug__" : Str)) = false := by decide) (hcd : (a == ("__classdict__" : Str)) = false := by decide) :
    PE X (.Call (.Name x p) [.Lambda params body scope lpos] [] pos) (tLamN T TT t) := by
  refine ⟨fun pins s σ H Q I h => wpAny_Call_Name_kw (ld_glob I hg hm (PySem.W.callWith_K (h₀ := X.base) I.ok.mod.kin hk ?_ (by rfl) (by rfl)) hdb)⟩
  show wpAny _ _ (spliced ((false, eval (.Lambda params body scope lpos) X.env) :: backTo pos (starEach [] X.env))) _ _ s
  refine Calls.spliced_cons (lam_makeN I TB hcode ht h.1 hdef (L.has I.ok) fun f c' pm' ctv H1 s1 I1 eN T1 hf hfn hfr hco => Calls.spliced_nil ⟨I1.kIn, ?_⟩)
  have run : codeAny (model X.prog X.w) X.A (.call (.ref g) ⟨[.ref f], []⟩) (CR C8.CX0 X.stack X.prog X.w H1 s1 Q C8.E0) s1 :=
    run_ofS (N := Ng) (ps := [a]) (us := [.ref f]) (vs := [.ref f]) lk hcg Sg hr I1.env0 (hb s1 [.ref f] I1.kIn rfl) (.cons rfl .nil) rfl fun hr' => by
      obtain ⟨u, hu, hq⟩ := hG f c' s1 H1 Q (fun E H' Q' => t E σ H' Q') (fun W pn xe E p1 p2 tk hW => pe_act (i := 0) I1 L hf hfn hfr (hbind _ _ _ _ _) tk hW hr' (fun A outer s H hr2 => hbody A outer s H E f c' hr2) hNg hva hd hcd) hco (h.2 H1 eN T1)
      exact ⟨u, hu.nox, hq⟩
  refine wpAny_call (codeAny_mono run fun r s2 hq => ?_)
  match r, hq with
  | .error e, hq => exact (show False from hq).elim
  | .ok (.ret u), hq => exact I1.after hq
  | .ok .next, hq => exact False.elim hq
  | .ok .brk, hq => exact False.elim hq
  | .ok .cont, hq => exact False.elim hq
end
end DL
set_option Elab.async false
set_option linter.all false
set_option maxRecDepth 100000
set_option maxHeartbeats 2000000
namespace DL
open PySem PySem.Spec PyProof.Rows L2
inductive D where
  | non | bl (b : Bool) | int (i : Int) | str (s : Str) | tup (l : List D) | lst (l : List D) | dic (l : List (D × D)) | obj (c : Nat) (fs : List D) | han (k : Nat) | scr (l : List Int) | tup0 (l : List D) | dit (l : List (D × D)) | clo (n : Nat) (l : List D)
/-- what a name is to the proof: nothing, a value that stays, an object of its own -/
inductive Sl where
  | no | v (d : D) | o (d : D)
abbrev Env := List Sl
abbrev DS := List D
inductive R (α : Type) where
  | ok (a : α) (s : DS) | ex (c : Nat) (p : List D) (s : DS) | bad
@[reducible] def R.bind {α β : Type} (r : R α) (k : α → DS → R β) : R β := match r with
  | .ok a s => k a s
  | .ex c p s => .ex c p s
  | .bad => .bad
def R.ofO {α : Type} (o : Option α) (s : DS) : R α := match o with
  | some a => .ok a s
  | none => .bad
/-- where the program's classes, errors and tables stand -/
structure Mp where
  cls : Nat → Addr
  flds : Nat → List Str
  exc : Nat → Addr
  row : Str
  tabs : Tbs
  raw : Bool := false
  clo : Hp → Nat → Addr → List V → Prop := fun _ _ _ _ => False
  cloM : ∀ (G G' : Hp) (n : Nat) (a : Addr) (vs : List V), Same G G' → clo G n a vs → clo G' n a vs := by intro _ _ _ _ _ _ h; exact h
def keyD : Key → D
  | .inl i => .int i
  | .inr s => .str s
/-- a tuple, as data know it; raw: no constant of the program's, none that is held still -/
def Tq (K : PySem.W.Frag) (M : Mp) (G : Hp) (a : Addr) (vs : List V) : Prop := if M.raw = true then G a = some (.tup vs) else SqT K G a vs
theorem Tq.sq {K : PySem.W.Frag} {M : Mp} {G : Hp} {a : Addr} {vs : List V} (h : Tq K M G a vs) : SqT K G a vs := by
  unfold Tq at h
  split at h
  · exact .inl (.inl h)
  · exact h
theorem Tq.is {K : PySem.W.Frag} {M : Mp} {G : Hp} {a : Addr} {vs : List V} (m : M.raw = true) (h : Tq K M G a vs) : G a = some (.tup vs) := by
  unfold Tq at h
  rw [if_pos m] at h
  exact h
theorem Tq.of {K : PySem.W.Frag} {M : Mp} {G : Hp} {a : Addr} {vs : List V} (h : G a = some (.tup vs)) : Tq K M G a vs := by
  unfold Tq
  split
  · exact h
  · exact .inl (.inl h)
theorem Tq.loose {K : PySem.W.Frag} {M : Mp} {G : Hp} {a : Addr} {vs : List V} (m : M.raw = false) (h : SqT K G a vs) : Tq K M G a vs := by
  unfold Tq
  rw [if_neg (by rw [m]; exact Bool.false_ne_true)]
  exact h
mutual
def Rep (K : PySem.W.Frag) (M : Mp) (G : Hp) (hs : List Addr) : D → V → Prop
  | .non, v => v = .non
  | .bl b, v => v = .bl b
  | .int i, v => v = .int i
  | .str s, v => v = .str s
  | .tup ds, v => ∃ a vs, v = .ref a ∧ Tq K M G a vs ∧ RepL K M G hs ds vs
  | .lst ds, v => ∃ a vs, v = .ref a ∧ G a = some (.lst vs) ∧ RepL K M G hs ds vs
  | .dic kvs, v => ∃ a o l, v = .ref a ∧ G a = some (.frz o (.dK l)) ∧ RepD K M G hs kvs l
  | .obj c ds, v => ∃ a dx fs, v = .ref a ∧ G a = some (.ins (M.cls c) dx fs) ∧ fs.map (·.1) = M.flds c ∧ RepL K M G hs ds (fs.map (·.2))
  | .han k, v => ∃ a, v = .ref a ∧ hs[k]? = some a
  | .scr l, v => ∃ a, v = .ref a ∧ SqL K G a (l.map V.int)
  | .tup0 ds, v => ∃ a o vs, v = .ref a ∧ G a = some (.frz o (.tup vs)) ∧ o.cls = .type "tuple" ∧ o.dict = none ∧ RepL K M G hs ds vs
  | .dit kvs, v => ∃ a o l, v = .ref a ∧ G a = some (.frz o (.dT l)) ∧ RepT K M G hs kvs l
  | .clo n ds, v => ∃ a vs, v = .ref a ∧ M.clo G n a vs ∧ RepL K M G hs ds vs
def RepL (K : PySem.W.Frag) (M : Mp) (G : Hp) (hs : List Addr) : List D → List V → Prop
  | [], vs => vs = []
  | d :: ds, vs => ∃ v vr, vs = v :: vr ∧ Rep K M G hs d v ∧ RepL K M G hs ds vr
def RepD (K : PySem.W.Frag) (M : Mp) (G : Hp) (hs : List Addr) : List (D × D) → List (Key × V) → Prop
  | [], vs => vs = []
  | (k, d) :: ds, vs => ∃ k' v vr, vs = (k', v) :: vr ∧ keyD k' = k ∧ Rep K M G hs d v ∧ RepD K M G hs ds vr
def RepT (K : PySem.W.Frag) (M : Mp) (G : Hp) (hs : List Addr) : List (D × D) → List (List Key × V) → Prop
  | [], vs => vs = []
  | (k, d) :: ds, vs => ∃ k' v vr, vs = (k', v) :: vr ∧ D.tup (k'.map keyD) = k ∧ Rep K M G hs d v ∧ RepT K M G hs ds vr
end
theorem same_seqT {K : PySem.W.Frag} {H H' : Hp} {a : Addr} {xs : List V} (e : Same H H') (h : SqT K H a xs) : SqT K H' a xs := by
  rcases h with (h | ⟨o, h⟩) | h
  · exact .inl (.inl (e _ _ h))
  · exact .inl (.inr ⟨o, e _ _ h⟩)
  · exact .inr h
theorem Tq.mono {K : PySem.W.Frag} {M : Mp} {H H' : Hp} {a : Addr} {xs : List V} (e : Same H H') (h : Tq K M H a xs) : Tq K M H' a xs := by
  unfold Tq at h ⊢
  split
  · rename_i m
    rw [if_pos m] at h
    exact e _ _ h
  · rename_i m
    rw [if_neg m] at h
    exact same_seqT e h
section
variable {K : PySem.W.Frag} {M : Mp} {G G' : Hp} {hs hs' : List Addr}
/-- the first handles are the same -/
def Pre (hs hs' : List Addr) : Prop := ∀ (k : Nat) (a : Addr), hs[k]? = some a → hs'[k]? = some a
theorem Pre.refl (hs : List Addr) : Pre hs hs := fun _ _ h => h
theorem Pre.trans {a b c : List Addr} (h : Pre a b) (g : Pre b c) : Pre a c := fun k x e => g k x (h k x e)
theorem Pre.snoc (hs : List Addr) (a : Addr) : Pre hs (hs ++ [a]) := fun k x e => by
  have hl : k < hs.length := (List.getElem?_eq_some_iff.mp e).1
  rw [List.getElem?_append_left hl]
  exact e
mutual
theorem Rep.mono (e : Same G G') (p : Pre hs hs') : ∀ (d : D) (v : V), Rep K M G hs d v → Rep K M G' hs' d v
  | .non, _, h => by unfold Rep at h ⊢; exact h
  | .bl b, _, h => by unfold Rep at h ⊢; exact h
  | .int i, _, h => by unfold Rep at h ⊢; exact h
  | .str s, _, h => by unfold Rep at h ⊢; exact h
  | .tup ds, _, h => by
    unfold Rep at h ⊢
    obtain ⟨a, vs, h1, h2, h3⟩ := h
    exact ⟨a, vs, h1, h2.mono e, RepL.mono e p ds vs h3⟩
  | .lst ds, _, h => by
    unfold Rep at h ⊢
    obtain ⟨a, vs, h1, h2, h3⟩ := h
    exact ⟨a, vs, h1, e _ _ h2, RepL.mono e p ds vs h3⟩
  | .dic kvs, _, h => by
    unfold Rep at h ⊢
    obtain ⟨a, o, l, h1, h2, h3⟩ := h
    exact ⟨a, o, l, h1, e _ _ h2, RepD.mono e p kvs l h3⟩
  | .obj c ds, _, h => by
    unfold Rep at h ⊢
    obtain ⟨a, dx, fs, h1, h2, h3, h4⟩ := h
    exact ⟨a, dx, fs, h1, e _ _ h2, h3, RepL.mono e p ds _ h4⟩
  | .han k, _, h => by
    unfold Rep at h ⊢
    obtain ⟨a, h1, h2⟩ := h
    exact ⟨a, h1, p _ _ h2⟩
  | .scr l, _, h => by
    unfold Rep at h ⊢
    obtain ⟨a, h1, h2⟩ := h
    exact ⟨a, h1, e.seq h2⟩
  | .tup0 ds, _, h => by
    unfold Rep at h ⊢
    obtain ⟨a, o, vs, h1, h2, h3, h4, h5⟩ := h
    exact ⟨a, o, vs, h1, e _ _ h2, h3, h4, RepL.mono e p ds vs h5⟩
  | .dit kvs, _, h => by
    unfold Rep at h ⊢
    obtain ⟨a, o, l, h1, h2, h3⟩ := h
    exact ⟨a, o, l, h1, e _ _ h2, RepT.mono e p kvs l h3⟩
  | .clo n ds, _, h => by
    unfold Rep at h ⊢
    obtain ⟨a, vs, h1, h2, h3⟩ := h
    exact ⟨a, vs, h1, M.cloM _ _ _ _ _ e h2, RepL.mono e p ds vs h3⟩
theorem RepL.mono (e : Same G G') (p : Pre hs hs') : ∀ (ds : List D) (vs : List V), RepL K M G hs ds vs → RepL K M G' hs' ds vs
  | [], _, h => by unfold RepL at h ⊢; exact h
  | d :: ds, _, h => by
    unfold RepL at h ⊢
    obtain ⟨v, vr, h1, h2, h3⟩ := h
    exact ⟨v, vr, h1, Rep.mono e p d v h2, RepL.mono e p ds vr h3⟩
theorem RepD.mono (e : Same G G') (p : Pre hs hs') : ∀ (ds : List (D × D)) (vs : List (Key × V)), RepD K M G hs ds vs → RepD K M G' hs' ds vs
  | [], _, h => by unfold RepD at h ⊢; exact h
  | (k, d) :: ds, _, h => by
    unfold RepD at h ⊢
    obtain ⟨k', v, vr, h1, h0, h2, h3⟩ := h
    exact ⟨k', v, vr, h1, h0, Rep.mono e p d v h2, RepD.mono e p ds vr h3⟩
theorem RepT.mono (e : Same G G') (p : Pre hs hs') : ∀ (ds : List (D × D)) (vs : List (List Key × V)), RepT K M G hs ds vs → RepT K M G' hs' ds vs
  | [], _, h => by unfold RepT at h ⊢; exact h
  | (k, d) :: ds, _, h => by
    unfold RepT at h ⊢
    obtain ⟨k', v, vr, h1, h0, h2, h3⟩ := h
    exact ⟨k', v, vr, h1, h0, Rep.mono e p d v h2, RepT.mono e p ds vr h3⟩
end
theorem rep_non {v : V} : Rep K M G hs .non v ↔ v = .non := by unfold Rep; rfl
theorem rep_bl {b : Bool} {v : V} : Rep K M G hs (.bl b) v ↔ v = .bl b := by unfold Rep; rfl
theorem rep_int {i : Int} {v : V} : Rep K M G hs (.int i) v ↔ v = .int i := by unfold Rep; rfl
theorem rep_str {i : Str} {v : V} : Rep K M G hs (.str i) v ↔ v = .str i := by unfold Rep; rfl
theorem rep_tupq {ds : List D} {v : V} : Rep K M G hs (.tup ds) v ↔ ∃ a vs, v = .ref a ∧ Tq K M G a vs ∧ RepL K M G hs ds vs := by unfold Rep; rfl
theorem rep_tup {ds : List D} {v : V} (h : Rep K M G hs (.tup ds) v) : ∃ a vs, v = .ref a ∧ SqT K G a vs ∧ RepL K M G hs ds vs := by
  obtain ⟨a, vs, h1, h2, h3⟩ := rep_tupq.mp h
  exact ⟨a, vs, h1, h2.sq, h3⟩
theorem rep_tupR {ds : List D} {a : Addr} {vs : List V} (h : G a = some (.tup vs)) (h2 : RepL K M G hs ds vs) : Rep K M G hs (.tup ds) (.ref a) := rep_tupq.mpr ⟨a, vs, rfl, .of h, h2⟩
theorem rep_dit {kvs : List (D × D)} {v : V} : Rep K M G hs (.dit kvs) v ↔ ∃ a o l, v = .ref a ∧ G a = some (.frz o (.dT l)) ∧ RepT K M G hs kvs l := by unfold Rep; rfl
theorem rep_lst {ds : List D} {v : V} : Rep K M G hs (.lst ds) v ↔ ∃ a vs, v = .ref a ∧ G a = some (.lst vs) ∧ RepL K M G hs ds vs := by unfold Rep; rfl
theorem rep_dic {kvs : List (D × D)} {v : V} : Rep K M G hs (.dic kvs) v ↔ ∃ a o l, v = .ref a ∧ G a = some (.frz o (.dK l)) ∧ RepD K M G hs kvs l := by unfold Rep; rfl
theorem rep_obj {c : Nat} {ds : List D} {v : V} : Rep K M G hs (.obj c ds) v ↔ ∃ a dx fs, v = .ref a ∧ G a = some (.ins (M.cls c) dx fs) ∧ fs.map (·.1) = M.flds c ∧ RepL K M G hs ds (fs.map (·.2)) := by unfold Rep; rfl
theorem rep_han {k : Nat} {v : V} : Rep K M G hs (.han k) v ↔ ∃ a, v = .ref a ∧ hs[k]? = some a := by unfold Rep; rfl
theorem rep_scr {l : List Int} {v : V} : Rep K M G hs (.scr l) v ↔ ∃ a, v = .ref a ∧ SqL K G a (l.map V.int) := by unfold Rep; rfl
theorem rep_clo {n : Nat} {ds : List D} {v : V} : Rep K M G hs (.clo n ds) v ↔ ∃ a vs, v = .ref a ∧ M.clo G n a vs ∧ RepL K M G hs ds vs := by unfold Rep; rfl
theorem repL_nil {vs : List V} : RepL K M G hs [] vs ↔ vs = [] := by unfold RepL; rfl
theorem repL_cons {d : D} {ds : List D} {vs : List V} : RepL K M G hs (d :: ds) vs ↔ ∃ v vr, vs = v :: vr ∧ Rep K M G hs d v ∧ RepL K M G hs ds vr := by
  constructor
  · intro h; unfold RepL at h; exact h
  · intro h; unfold RepL; exact h
theorem RepL.length : ∀ {ds : List D} {vs : List V}, RepL K M G hs ds vs → ds.length = vs.length
  | [], vs, h => by rw [repL_nil] at h; subst h; rfl
  | d :: ds, vs, h => by
    rw [repL_cons] at h
    obtain ⟨v, vr, rfl, _, h3⟩ := h
    simp [RepL.length h3]
theorem RepL.append : ∀ {ds es : List D} {vs ws : List V}, RepL K M G hs ds vs → RepL K M G hs es ws → RepL K M G hs (ds ++ es) (vs ++ ws)
  | [], _, vs, _, h, g => by rw [repL_nil] at h; subst h; exact g
  | d :: ds, _, vs, _, h, g => by
    rw [repL_cons] at h
    obtain ⟨v, vr, rfl, h2, h3⟩ := h
    rw [List.cons_append, List.cons_append, repL_cons]
    exact ⟨v, _, rfl, h2, RepL.append h3 g⟩
theorem RepL.get : ∀ {ds : List D} {vs : List V} {i : Nat} {d : D}, RepL K M G hs ds vs → ds[i]? = some d → ∃ v, vs[i]? = some v ∧ Rep K M G hs d v
  | [], _, _, _, _, e => by simp at e
  | x :: ds, vs, 0, d, h, e => by
    rw [repL_cons] at h
    obtain ⟨v, vr, rfl, h2, h3⟩ := h
    simp at e
    subst e
    exact ⟨v, rfl, h2⟩
  | x :: ds, vs, i + 1, d, h, e => by
    rw [repL_cons] at h
    obtain ⟨v, vr, rfl, h2, h3⟩ := h
    obtain ⟨w, h4, h5⟩ := RepL.get (i := i) h3 (by simpa using e)
    exact ⟨w, by simpa using h4, h5⟩
theorem RepL.set : ∀ {ds : List D} {vs : List V} {d : D} {v : V} (i : Nat), RepL K M G hs ds vs → Rep K M G hs d v → RepL K M G hs (ds.set i d) (vs.set i v)
  | [], vs, _, _, _, h, _ => by rw [repL_nil] at h; subst h; simp [repL_nil]
  | x :: ds, vs, d, v, 0, h, g => by
    rw [repL_cons] at h
    obtain ⟨w, vr, rfl, h2, h3⟩ := h
    rw [List.set_cons_zero, List.set_cons_zero, repL_cons]
    exact ⟨_, _, rfl, g, h3⟩
  | x :: ds, vs, d, v, i + 1, h, g => by
    rw [repL_cons] at h
    obtain ⟨w, vr, rfl, h2, h3⟩ := h
    rw [List.set_cons_succ, List.set_cons_succ, repL_cons]
    exact ⟨_, _, rfl, h2, RepL.set i h3 g⟩
theorem RepL.take : ∀ {ds : List D} {vs : List V} (n : Nat), RepL K M G hs ds vs → RepL K M G hs (ds.take n) (vs.take n)
  | ds, vs, 0, _ => by simp [repL_nil]
  | [], vs, n + 1, h => by rw [repL_nil] at h; subst h; simp [repL_nil]
  | x :: ds, vs, n + 1, h => by
    rw [repL_cons] at h
    obtain ⟨w, vr, rfl, h2, h3⟩ := h
    rw [List.take_succ_cons, List.take_succ_cons, repL_cons]
    exact ⟨_, _, rfl, h2, RepL.take n h3⟩
theorem RepL.drop : ∀ {ds : List D} {vs : List V} (n : Nat), RepL K M G hs ds vs → RepL K M G hs (ds.drop n) (vs.drop n)
  | ds, vs, 0, h => by simpa using h
  | [], vs, n + 1, h => by rw [repL_nil] at h; subst h; simp [repL_nil]
  | x :: ds, vs, n + 1, h => by
    rw [repL_cons] at h
    obtain ⟨w, vr, rfl, h2, h3⟩ := h
    rw [List.drop_succ_cons, List.drop_succ_cons]
    exact RepL.drop n h3
theorem RepL.ints : ∀ {ns : List Int} {vs : List V}, RepL K M G hs (ns.map D.int) vs ↔ vs = ns.map V.int
  | [], vs => by simp [repL_nil]
  | n :: ns, vs => by
    rw [List.map_cons, repL_cons, List.map_cons]
    constructor
    · rintro ⟨v, vr, rfl, h2, h3⟩
      rw [rep_int] at h2
      rw [RepL.ints] at h3
      rw [h2, h3]
    · rintro rfl
      exact ⟨_, _, rfl, rep_int.mpr rfl, RepL.ints.mpr rfl⟩
end
/-- what stands at a handle, or at a name that owns its object -/
def At (K : PySem.W.Frag) (M : Mp) (G : Hp) (hs : List Addr) (H : Hp) (a : Addr) : D → Prop
  | .lst ds => ∃ vs, H a = some (.lst vs) ∧ RepL K M G hs ds vs
  | .dic kvs => ∃ l, H a = some (.dK l) ∧ RepD K M G hs kvs l
  | .dit kvs => ∃ l, H a = some (.dT l) ∧ RepT K M G hs kvs l
  | .obj c ds => ∃ dx fs, H a = some (.ins (M.cls c) dx fs) ∧ fs.map (·.1) = (M.flds c).take ds.length ∧ RepL K M G hs ds (fs.map (·.2))
  | _ => False
theorem At.mono {K : PySem.W.Frag} {M : Mp} {G G' H H' : Hp} {hs hs' : List Addr} {a : Addr} (e : Same G G') (p : Pre hs hs') (h : H' a = H a) : ∀ {d : D}, At K M G hs H a d → At K M G' hs' H' a d
  | .lst ds, ⟨vs, h1, h2⟩ => ⟨vs, by rw [h]; exact h1, h2.mono e p⟩
  | .dic kvs, ⟨vs, h1, h2⟩ => ⟨vs, by rw [h]; exact h1, h2.mono e p⟩
  | .dit kvs, ⟨vs, h1, h2⟩ => ⟨vs, by rw [h]; exact h1, h2.mono e p⟩
  | .obj c ds, ⟨dx, fs, h1, h2, h3⟩ => ⟨dx, fs, by rw [h]; exact h1, h2, h3.mono e p⟩
theorem At.some {K : PySem.W.Frag} {M : Mp} {G H : Hp} {hs : List Addr} {a : Addr} : ∀ {d : D}, At K M G hs H a d → ∃ o, H a = Option.some o ∧ ∀ ps, o ≠ .tbl ps
  | .lst ds, ⟨vs, h1, h2⟩ => ⟨_, h1, fun _ z => by cases z⟩
  | .dic kvs, ⟨vs, h1, h2⟩ => ⟨_, h1, fun _ z => by cases z⟩
  | .dit kvs, ⟨vs, h1, h2⟩ => ⟨_, h1, fun _ z => by cases z⟩
  | .obj c ds, ⟨dx, fs, h1, h2, h3⟩ => ⟨_, h1, fun _ z => by cases z⟩
theorem At.notup {K : PySem.W.Frag} {M : Mp} {G H : Hp} {hs : List Addr} {a : Addr} : ∀ {d : D} {o : HO}, At K M G hs H a d → H a = Option.some o → ∀ vs, o ≠ .tup vs
  | .lst ds, o, ⟨vs, h1, h2⟩, e => fun _ z => by rw [h1] at e; cases e; cases z
  | .dic kvs, o, ⟨vs, h1, h2⟩, e => fun _ z => by rw [h1] at e; cases e; cases z
  | .dit kvs, o, ⟨vs, h1, h2⟩, e => fun _ z => by rw [h1] at e; cases e; cases z
  | .obj c ds, o, ⟨dx, fs, h1, h2, h3⟩, e => fun _ z => by rw [h1] at e; cases e; cases z
/-- what tells of a code object -/
def Codeish (φ : Heap → Prop) : Prop := ∃ (c : Addr) (q : Str), ∀ h, φ h → ∃ (oc : Obj) (vs : Array Value) (t : Tok), h.get? c = some oc ∧ oc.data = .fields vs ∧ vs[1]? = some (.str q t)
/-- what never changes: a tuple, a code object -/
def fixO (o : HO) : Prop := (∃ vs, o = .tup vs) ∨ ∃ φ, o = .ext φ ∧ Codeish φ
theorem At.nofix {K : PySem.W.Frag} {M : Mp} {G H : Hp} {hs : List Addr} {a : Addr} : ∀ {d : D} {o : HO}, At K M G hs H a d → H a = Option.some o → ¬ fixO o
  | .lst ds, o, ⟨vs, h1, h2⟩, e => by rw [h1] at e; cases e; rintro (⟨_, z⟩ | ⟨_, z, _⟩) <;> cases z
  | .dic kvs, o, ⟨vs, h1, h2⟩, e => by rw [h1] at e; cases e; rintro (⟨_, z⟩ | ⟨_, z, _⟩) <;> cases z
  | .dit kvs, o, ⟨vs, h1, h2⟩, e => by rw [h1] at e; cases e; rintro (⟨_, z⟩ | ⟨_, z, _⟩) <;> cases z
  | .obj c ds, o, ⟨dx, fs, h1, h2, h3⟩, e => by rw [h1] at e; cases e; rintro (⟨_, z⟩ | ⟨_, z, _⟩) <;> cases z
theorem at_no {K : PySem.W.Frag} {M : Mp} {G H : Hp} {hs : List Addr} {a : Addr} {d : D} {o : HO} (h : At K M G hs H a d) (e : H a = some o) : ∀ ps, o ≠ .tbl ps := by
  obtain ⟨u, e1, n⟩ := At.some h
  rw [e] at e1
  cases e1
  exact n
structure Sim (K : PySem.W.Frag) (M : Mp) (G : Hp) (hs : List Addr) (s : DS) (H : Hp) : Prop where
  sub : Same G H
  len : hs.length = s.length
  nd : hs.Nodup
  hG : ∀ a ∈ hs, G a = none
  han : ∀ (k : Nat) (a : Addr) (d : D), hs[k]? = some a → s[k]? = some d → At K M G hs H a d
  tab : TabsX M.tabs H
  tG : ∀ a o, G a = some o → ∀ ps, o ≠ .tbl ps
def inTab (M : Mp) (a : Addr) : Prop := ∃ p ∈ M.tabs.l, p.1 = a
/-- nothing but a table may stand there -/
def Nt (H : Hp) (a : Addr) : Prop := ∀ o, H a = some o → ∃ ps, o = HO.tbl ps
theorem nt_none {H : Hp} {a : Addr} (h : H a = none) : Nt H a := fun o e => by rw [h] at e; cases e
theorem Nt.no {H : Hp} {a : Addr} {o : HO} (h : Nt H a) (e : H a = some o) (n : ∀ ps, o ≠ .tbl ps) : False := by
  obtain ⟨ps, z⟩ := h o e
  exact n ps z
/-- .. or what never changes and no one tracks -/
def NtT (hs : List Addr) (H : Hp) (a : Addr) : Prop := Nt H a ∨ ((∃ o, H a = some o ∧ fixO o) ∧ a ∉ hs)
/-- what a run may do to the heaps -/
structure Stp (M : Mp) (G : Hp) (hs : List Addr) (H : Hp) (G' : Hp) (hs' : List Addr) (H' : Hp) : Prop where
  gg : Same G G'
  fr : ∀ a o, G' a = some o → G a = some o ∨ NtT hs H a
  hp : Pre hs hs'
  hf : ∀ a ∈ hs', a ∈ hs ∨ Nt H a
  kp : ∀ a o, H a = some o → a ∉ hs → (∀ ps, o ≠ .tbl ps) → H' a = some o
  dm : ∀ a, Nt H' a → Nt H a
theorem Stp.refl (M : Mp) (G : Hp) (hs : List Addr) (H : Hp) : Stp M G hs H G hs H :=
  ⟨fun _ _ h => h, fun _ _ h => .inl h, Pre.refl _, fun _ h => .inl h, fun _ _ h _ _ => h, fun _ h => h⟩
theorem Pre.sub {hs hs' : List Addr} (h : Pre hs hs') {a : Addr} (m : a ∈ hs) : a ∈ hs' := by
  obtain ⟨k, hk, e⟩ := List.getElem_of_mem m
  exact List.mem_of_getElem? (h k a (by rw [List.getElem?_eq_getElem hk, e]))
theorem Stp.back {M : Mp} {G G1 H H1 : Hp} {hs hs1 : List Addr} (S : Stp M G hs H G1 hs1 H1) {a : Addr} (h : NtT hs1 H1 a) : NtT hs H a := by
  rcases h with h | ⟨⟨o, e, fo⟩, n⟩
  · exact .inl (S.dm a h)
  · have n0 : a ∉ hs := fun z => n (S.hp.sub z)
    cases q : H a with
    | none => exact .inl (nt_none q)
    | some u =>
      by_cases t : ∀ ps, u ≠ .tbl ps
      · have := S.kp a u q n0 t
        rw [e] at this
        cases this
        exact .inr ⟨⟨_, q, fo⟩, n0⟩
      · refine .inl fun o z => ?_
        rw [q] at z
        cases z
        exact Classical.byContradiction fun y => t fun ps w => y ⟨ps, w⟩
theorem Stp.trans {M : Mp} {G G1 G2 H H1 H2 : Hp} {hs hs1 hs2 : List Addr} (a : Stp M G hs H G1 hs1 H1) (b : Stp M G1 hs1 H1 G2 hs2 H2) : Stp M G hs H G2 hs2 H2 where
  gg := a.gg.trans b.gg
  fr := fun x o h => by
    rcases b.fr x o h with z | z
    · exact a.fr x o z
    · exact .inr (a.back z)
  hp := a.hp.trans b.hp
  hf := fun x h => by
    rcases b.hf x h with z | z
    · exact a.hf x z
    · exact .inr (a.dm x z)
  kp := fun x o h n t => b.kp x o (a.kp x o h n t) (fun z => by
    rcases a.hf x z with q | q
    · exact n q
    · exact q.no h t) t
  dm := fun x h => a.dm x (b.dm x h)
section
variable {K : PySem.W.Frag} {M : Mp} {G G' H H' : Hp} {hs hs' : List Addr} {s s' : DS}
theorem Sim.hanAt (S : Sim K M G hs s H) {a : Addr} (h : a ∈ hs) : ∃ (k : Nat) (d : D), hs[k]? = some a ∧ s[k]? = some d ∧ At K M G hs H a d := by
  obtain ⟨k, hk, e⟩ := List.getElem_of_mem h
  have hk2 : k < s.length := by rw [← S.len]; exact hk
  have e1 : hs[k]? = some a := by rw [List.getElem?_eq_getElem hk, e]
  have e2 : s[k]? = some s[k] := List.getElem?_eq_getElem hk2
  exact ⟨k, _, e1, e2, S.han k a _ e1 e2⟩
theorem Sim.hanS (S : Sim K M G hs s H) {a : Addr} (h : a ∈ hs) : ∃ o, H a = some o ∧ ∀ ps, o ≠ .tbl ps := by
  obtain ⟨k, d, _, _, h3⟩ := S.hanAt h
  exact h3.some
theorem Sim.tabS (S : Sim K M G hs s H) {a : Addr} (h : inTab M a) : ∃ ps, H a = some (.tbl ps) := by
  obtain ⟨p, hp, e⟩ := h
  obtain ⟨ps, h1, _⟩ := S.tab.1 p hp
  rw [← e]
  exact ⟨ps, h1⟩
theorem Sim.free (S : Sim K M G hs s H) {p : Addr} (h : H p = none) : G p = none ∧ p ∉ hs ∧ ¬ inTab M p := by
  refine ⟨S.sub.free h, fun z => ?_, fun z => ?_⟩
  · obtain ⟨o, e, _⟩ := S.hanS z
    rw [h] at e; cases e
  · obtain ⟨ps, e⟩ := S.tabS z
    rw [h] at e; cases e
theorem same_upd {G : Hp} {p : Addr} {o : HO} (h : G p = none) : Same G (upd G p o) := fun b u e => by
  rw [upd_ne (ne_of_none e h)]
  exact e
/-- an object that no one tracks is laid -/
theorem Sim.extH (S : Sim K M G hs s H) (k : ∀ a o, H a = some o → H' a = some o) : Sim K M G hs s H' where
  sub := fun a o e => k a o (S.sub a o e)
  len := S.len
  nd := S.nd
  hG := S.hG
  han := fun i a d e1 e2 => (S.han i a d e1 e2).mono (fun _ _ h => h) (Pre.refl _) (by
    obtain ⟨o, e, _⟩ := (S.han i a d e1 e2).some
    rw [e, k a o e])
  tab := S.tab.ext k
  tG := S.tG
theorem Stp.extH (k : ∀ a o, H a = some o → H' a = some o) : Stp M G hs H G hs H' :=
  ⟨fun _ _ h => h, fun _ _ h => .inl h, Pre.refl _, fun _ h => .inl h, fun a o h _ _ => k a o h, fun a h o q => h o (k a o q)⟩
/-- what stands in H already is from now on still -/
theorem Sim.still (S : Sim K M G hs s H) {p : Addr} {o : HO} (e : H p = some o) (n : p ∉ hs) (t : ¬ inTab M p) (g : G p = none) (no : ∀ ps, o ≠ .tbl ps) : Sim K M (upd G p o) hs s H where
  sub := fun a u q => by
    by_cases z : a = p
    · subst z; rw [upd_same] at q; cases q; exact e
    · rw [upd_ne z] at q; exact S.sub a u q
  len := S.len
  nd := S.nd
  hG := fun a h => by
    have na : a ≠ p := fun z => n (by rw [← z]; exact h)
    rw [upd_ne na]
    exact S.hG a h
  han := fun i a d e1 e2 => (S.han i a d e1 e2).mono (same_upd g) (Pre.refl _) rfl
  tab := S.tab
  tG := fun a u e => by
    by_cases z : a = p
    · subst z; rw [upd_same] at e; cases e; exact no
    · rw [upd_ne z] at e; exact S.tG a u e
/-- a new thing is laid -/
theorem Sim.laid (S : Sim K M G hs s H) {p : Addr} {o : HO} (h : H p = none) (no : ∀ ps, o ≠ .tbl ps := by intro ps z; cases z) : Stp M G hs H (upd G p o) hs (upd H p o) ∧ Sim K M (upd G p o) hs s (upd H p o) := by
  obtain ⟨f1, f2, f3⟩ := S.free h
  have k : ∀ a u, H a = some u → upd H p o a = some u := fun a u e => by rw [upd_ne (ne_of_none e h)]; exact e
  refine ⟨⟨same_upd f1, fun a u e => ?_, Pre.refl _, fun _ h => .inl h, fun a u e _ _ => k a u e, fun a e => ?_⟩, (S.extH k).still upd_same f2 f3 f1 no⟩
  · by_cases z : a = p
    · subst z; exact .inr (.inl (nt_none h))
    · rw [upd_ne z] at e; exact .inl e
  · by_cases z : a = p
    · subst z; exact nt_none h
    · exact fun o q => e o (by rw [upd_ne z]; exact q)
end
structure Anc where
  G : Hp
  hs : List Addr
  H : Hp
  slf : Option Addr
structure Sm (K : PySem.W.Frag) (M : Mp) (A : Anc) (σ : L2.St) (H G : Hp) (hs : List Addr) (own : Nat → Addr) (η : Env) (s : DS) : Prop where
  sim : Sim K M G hs s H
  stp : Stp M A.G A.hs A.H G hs H
  pl : ∀ (i : Nat) (d : D), η[i]? = some (.v d) → ∃ v, σ[i]? = some (some v) ∧ Rep K M G hs d v
  ow : ∀ (i : Nat) (d : D), η[i]? = some (.o d) → σ[i]? = some (some (.ref (own i))) ∧ At K M G hs H (own i) d ∧ G (own i) = none ∧ own i ∉ hs ∧ ¬ inTab M (own i) ∧ Nt A.H (own i)
  inj : ∀ (i j : Nat) (d e : D), η[i]? = some (.o d) → η[j]? = some (.o e) → own i = own j → i = j
  el : η.length = σ.length
  sf : ∀ (x : Addr) (d : D), A.slf = some x → η[0]? = some (.o d) → own 0 = x
section
variable {K : PySem.W.Frag} {M : Mp} {A : Anc} {σ : L2.St} {H H' G G' : Hp} {hs hs' : List Addr} {own : Nat → Addr} {η : Env} {s s' : DS}
theorem Stp.keepAt (S : Stp M G hs H G' hs' H') {a : Addr} {d : D} (h : At K M G hs H a d) (n : a ∉ hs) (t : ¬ inTab M a) : At K M G' hs' H' a d :=
  h.mono S.gg S.hp (by
    obtain ⟨o, e, no⟩ := h.some
    rw [e, S.kp a o e n no])
theorem Stp.away (S : Stp M G hs H G' hs' H') {a : Addr} {o : HO} (e : H a = some o) (n : a ∉ hs) (g : G a = none) (no : ∀ ps, o ≠ .tbl ps) (nt : ¬ fixO o := by rintro (⟨_, z⟩ | ⟨_, z, _⟩) <;> cases z) : G' a = none ∧ a ∉ hs' := by
  constructor
  · cases q : G' a with
    | none => rfl
    | some u =>
      rcases S.fr a u q with z | z
      · rw [g] at z; cases z
      · rcases z with z | ⟨⟨u2, z, fo⟩, _⟩
        · exact (z.no e no).elim
        · rw [e] at z
          cases z
          exact (nt fo).elim
  · intro h
    rcases S.hf a h with z | z
    · exact n z
    · exact z.no e no
theorem Sm.step (I : Sm K M A σ H G hs own η s) (S : Stp M G hs H G' hs' H') (S' : Sim K M G' hs' s' H') : Sm K M A σ H' G' hs' own η s' where
  sim := S'
  stp := I.stp.trans S
  pl := fun i d e => by
    obtain ⟨v, h1, h2⟩ := I.pl i d e
    exact ⟨v, h1, h2.mono S.gg S.hp⟩
  ow := fun i d e => by
    obtain ⟨h1, h2, h3, h4, h5, h6⟩ := I.ow i d e
    obtain ⟨o, e1, no⟩ := h2.some
    obtain ⟨a1, a2⟩ := S.away e1 h4 h3 no (h2.nofix e1)
    exact ⟨h1, S.keepAt h2 h4 h5, a1, a2, h5, h6⟩
  inj := I.inj
  el := I.el
  sf := I.sf
end
/-- an error: its class, what it bears -/
def ExR (K : PySem.W.Frag) (M : Mp) (G : Hp) (hs : List Addr) (H : Hp) (c : Nat) (p : List D) (cls : Value) (dx : Option Addr) : Prop :=
  cls = .ref (M.exc c) ∧ ((p = [] ∧ dx = none) ∨ ∃ d v dd, p = [d] ∧ Rep K M G hs d v ∧ dx = some dd ∧ H dd = some (.xd [(M.row, v)]))
def RPost {α : Type} (K : PySem.W.Frag) (M : Mp) (σ : L2.St) (W : WX) (G : Hp) (hs : List Addr) (H : Hp) (r : R α) (k : α → Hp → List Addr → DS → Hp → Prop) : Prop :=
  match r with
  | .ok a s' => ∀ G' hs' H', Stp M G hs H G' hs' H' → Sim K M G' hs' s' H' → k a G' hs' s' H'
  | .ex c p s' => ∀ G' hs' H' cls dx, Stp M G hs H G' hs' H' → Sim K M G' hs' s' H' → ExR K M G' hs' H' c p cls dx → W cls dx σ H'
  | .bad => False
section
variable {K : PySem.W.Frag} {M : Mp} {σ : L2.St} {W : WX} {G G' H H' : Hp} {hs hs' : List Addr} {s s' : DS} {α β : Type}
theorem RPost.step {r : R α} {k : α → Hp → List Addr → DS → Hp → Prop} (S : Stp M G hs H G' hs' H') (h : RPost K M σ W G hs H r k) : RPost K M σ W G' hs' H' r k := by
  cases r with
  | ok a s' => exact fun G2 hs2 H2 S2 => h G2 hs2 H2 (S.trans S2)
  | ex c p s' => exact fun G2 hs2 H2 cls dx S2 => h G2 hs2 H2 cls dx (S.trans S2)
  | bad => exact h
theorem RPost.mono {r : R α} {k k' : α → Hp → List Addr → DS → Hp → Prop} (h : RPost K M σ W G hs H r k) (m : ∀ a G' hs' s' H', Stp M G hs H G' hs' H' → Sim K M G' hs' s' H' → k a G' hs' s' H' → k' a G' hs' s' H') : RPost K M σ W G hs H r k' := by
  cases r with
  | ok a s' => exact fun G2 hs2 H2 S2 S3 => m _ _ _ _ _ S2 S3 (h G2 hs2 H2 S2 S3)
  | ex c p s' => exact h
  | bad => exact h
theorem RPost.bind {r : R α} {f : α → DS → R β} {k : β → Hp → List Addr → DS → Hp → Prop} (h : RPost K M σ W G hs H (r.bind f) k) : RPost K M σ W G hs H r (fun a G' hs' s' H' => RPost K M σ W G' hs' H' (f a s') k) := by
  cases r with
  | ok a s' => exact fun G2 hs2 H2 S2 _ => RPost.step S2 h
  | ex c p s' => exact h
  | bad => exact h
theorem RPost.ofO {o : Option α} {k : α → Hp → List Addr → DS → Hp → Prop} (h : RPost K M σ W G hs H (R.ofO o s) k) : ∃ a, o = some a ∧ ∀ G' hs' H', Stp M G hs H G' hs' H' → Sim K M G' hs' s H' → k a G' hs' s H' := by
  cases o with
  | none => exact h.elim
  | some a => exact ⟨a, rfl, h⟩
end
/-- a value that is read here and now -/
def RV (K : PySem.W.Frag) (M : Mp) (G : Hp) (hs : List Addr) (H : Hp) (d : D) (v : V) : Prop := Rep K M G hs d v ∨ ∃ a, v = .ref a ∧ At K M G hs H a d
/-- a value that may be read for a while -/
def BV (K : PySem.W.Frag) (M : Mp) (G : Hp) (hs : List Addr) (H : Hp) (d : D) (v : V) : Prop := Rep K M G hs d v ∨ ∃ a, v = .ref a ∧ At K M G hs H a d ∧ a ∉ hs ∧ ¬ inTab M a ∧ G a = none
theorem BV.step {K : PySem.W.Frag} {M : Mp} {G G' H H' : Hp} {hs hs' : List Addr} {d : D} {v : V} (S : Stp M G hs H G' hs' H') (h : BV K M G hs H d v) : BV K M G' hs' H' d v := by
  rcases h with h | ⟨a, rfl, h1, h2, h3, h4⟩
  · exact .inl (h.mono S.gg S.hp)
  · obtain ⟨o, e1, no⟩ := h1.some
    obtain ⟨a1, a2⟩ := S.away e1 h2 h4 no (h1.nofix e1)
    exact .inr ⟨a, rfl, S.keepAt h1 h2 h3, a2, h3, a1⟩
/-- a handle is what stands at it -/
def deref (s : DS) : D → D
  | .han k => s.getD k .non
  | d => d
theorem BV.read {K : PySem.W.Frag} {M : Mp} {G H : Hp} {hs : List Addr} {s : DS} {d : D} {v : V} (S : Sim K M G hs s H) (h : BV K M G hs H d v) : RV K M G hs H (deref s d) v := by
  rcases h with h | ⟨a, rfl, h1, h2, h3, h4⟩
  · cases d with
    | han k =>
      rw [rep_han] at h
      obtain ⟨a, rfl, h1⟩ := h
      have hk : k < s.length := by rw [← S.len]; exact (List.getElem?_eq_some_iff.mp h1).1
      have e2 : s[k]? = some s[k] := List.getElem?_eq_getElem hk
      refine .inr ⟨a, rfl, ?_⟩
      show At K M G hs H a (s.getD k .non)
      rw [List.getD_eq_getElem?_getD, e2]
      exact S.han k a _ h1 e2
    | _ => exact .inl h
  · cases d with
    | han k => exact h1.elim
    | _ => exact .inr ⟨a, rfl, h1⟩
section
variable {K : PySem.W.Frag} {M : Mp} {G H : Hp} {hs : List Addr} {s : DS}
theorem RV.int {i : Int} {v : V} (h : RV K M G hs H (.int i) v) : v = .int i := by
  rcases h with h | ⟨_, _, h⟩
  · exact rep_int.mp h
  · exact h.elim
theorem RV.str {i : Str} {v : V} (h : RV K M G hs H (.str i) v) : v = .str i := by
  rcases h with h | ⟨_, _, h⟩
  · exact rep_str.mp h
  · exact h.elim
theorem RV.bl {i : Bool} {v : V} (h : RV K M G hs H (.bl i) v) : v = .bl i := by
  rcases h with h | ⟨_, _, h⟩
  · exact rep_bl.mp h
  · exact h.elim
theorem RV.non {v : V} (h : RV K M G hs H .non v) : v = .non := by
  rcases h with h | ⟨_, _, h⟩
  · exact rep_non.mp h
  · exact h.elim
theorem RV.tup (S : Sim K M G hs s H) {ds : List D} {v : V} (h : RV K M G hs H (.tup ds) v) : ∃ a vs, v = .ref a ∧ SqT K H a vs ∧ RepL K M G hs ds vs := by
  rcases h with h | ⟨_, _, h⟩
  · obtain ⟨a, vs, h1, h2, h3⟩ := rep_tup h
    exact ⟨a, vs, h1, same_seqT S.sub h2, h3⟩
  · exact h.elim
theorem RV.lst (S : Sim K M G hs s H) {ds : List D} {v : V} (h : RV K M G hs H (.lst ds) v) : ∃ a vs, v = .ref a ∧ H a = some (.lst vs) ∧ RepL K M G hs ds vs := by
  rcases h with h | ⟨a, e, vs, h1, h2⟩
  · obtain ⟨a, vs, h1, h2, h3⟩ := rep_lst.mp h
    exact ⟨a, vs, h1, S.sub _ _ h2, h3⟩
  · exact ⟨a, vs, e, h1, h2⟩
end
section
variable (M : Mp) (X : Cx) (W : WX)
abbrev EEx (t : TE) (f : Env → DS → R D) : Prop := ∀ (A : Anc) (σ : L2.St) (H G : Hp) (hs : List Addr) (own : Nat → Addr) (η : Env) (s : DS) (Q : VK), Sm X.K M A σ H G hs own η s →
    RPost X.K M σ W G hs H (f η s) (fun d G' hs' _ H' => ∀ v, Rep X.K M G' hs' d v → Q v H') → t σ H Q
abbrev BEx (t : TE) (f : Env → DS → R D) : Prop := ∀ (A : Anc) (σ : L2.St) (H G : Hp) (hs : List Addr) (own : Nat → Addr) (η : Env) (s : DS) (Q : VK), Sm X.K M A σ H G hs own η s →
    RPost X.K M σ W G hs H (f η s) (fun d G' hs' _ H' => ∀ v, BV X.K M G' hs' H' d v → Q v H') → t σ H Q
abbrev TEx (t : TT) (f : Env → DS → R Bool) : Prop := ∀ (A : Anc) (σ : L2.St) (H G : Hp) (hs : List Addr) (own : Nat → Addr) (η : Env) (s : DS) (Q : Bool → Hp → Prop), Sm X.K M A σ H G hs own η s →
    RPost X.K M σ W G hs H (f η s) (fun b _ _ _ H' => Q b H') → t σ H Q
def BVL (K : PySem.W.Frag) (M : Mp) (G : Hp) (hs : List Addr) (H : Hp) : List D → List V → Prop := Paired (BV K M G hs H)
abbrev AEx (t : TA) (f : Env → DS → R (List D)) : Prop := ∀ (A : Anc) (σ : L2.St) (H G : Hp) (hs : List Addr) (own : Nat → Addr) (η : Env) (s : DS) (Q : List V → Hp → Prop), Sm X.K M A σ H G hs own η s →
    RPost X.K M σ W G hs H (f η s) (fun ds G' hs' _ H' => ∀ vs, RepL X.K M G' hs' ds vs → Q vs H') → t σ H Q
abbrev ABEx (t : TA) (f : Env → DS → R (List D)) : Prop := ∀ (A : Anc) (σ : L2.St) (H G : Hp) (hs : List Addr) (own : Nat → Addr) (η : Env) (s : DS) (Q : List V → Hp → Prop), Sm X.K M A σ H G hs own η s →
    RPost X.K M σ W G hs H (f η s) (fun ds G' hs' _ H' => ∀ vs, BVL X.K M G' hs' H' ds vs → Q vs H') → t σ H Q
structure DE (e : Expr) (f : Env → DS → R D) : Prop where
  ex : ∃ t, PE X e t ∧ EEx M X W t f
structure DB (e : Expr) (f : Env → DS → R D) : Prop where
  ex : ∃ t, PE X e t ∧ BEx M X W t f
structure DT (e : Expr) (f : Env → DS → R Bool) : Prop where
  ex : ∃ t, PT X e t ∧ TEx M X W t f
structure DW (e : Expr) (f : Env → DS → R Bool) : Prop where
  ex : ∃ t, PW X e t ∧ TEx M X W t f
structure DA (es : List Expr) (f : Env → DS → R (List D)) : Prop where
  ex : ∃ t, PA X es t ∧ AEx M X W t f
structure DAB (es : List Expr) (f : Env → DS → R (List D)) : Prop where
  ex : ∃ t, PA X es t ∧ ABEx M X W t f
end
section
variable {M : Mp} {X : Cx} {W : WX}
theorem DE.b {e : Expr} {f : Env → DS → R D} (h : DE M X W e f) : DB M X W e f := by
  obtain ⟨t, p, h⟩ := h.ex
  exact ⟨t, p, fun A σ H G hs own η s Q I r => h A σ H G hs own η s Q I (r.mono fun a G' hs' s' H' _ _ k v q => k v (.inl q))⟩
/-- a constant -/
def cD (d : D) : Env → DS → R D := fun _ s => .ok d s
theorem de_int {i : Int} {j pos} : DE M X W (.Constant (.int i) j pos) (cD (.int i)) := ⟨_, pe_int, fun A σ H G hs own η s Q I r => r G hs H (Stp.refl _ _ _ _) I.sim _ (rep_int.mpr rfl)⟩
theorem de_bl {b : Bool} {j pos} : DE M X W (.Constant (.bool b) j pos) (cD (.bl b)) := ⟨_, pe_bl, fun A σ H G hs own η s Q I r => r G hs H (Stp.refl _ _ _ _) I.sim _ (rep_bl.mpr rfl)⟩
theorem de_non {j pos} : DE M X W (.Constant .none j pos) (cD .non) := ⟨_, pe_non, fun A σ H G hs own η s Q I r => r G hs H (Stp.refl _ _ _ _) I.sim _ (rep_non.mpr rfl)⟩
theorem de_str {x : Str} {j pos} : DE M X W (.Constant (.str x) j pos) (cD (.str x)) := ⟨_, pe_str, fun A σ H G hs own η s Q I r => r G hs H (Stp.refl _ _ _ _) I.sim _ (rep_str.mpr rfl)⟩
/-- a name -/
def vD (i : Nat) : Env → DS → R D := fun η s => match η[i]? with
  | some (.v d) => .ok d s
  | _ => .bad
/-- .. read for a while -/
def vB (i : Nat) : Env → DS → R D := fun η s => match η[i]? with
  | some (.v d) => .ok d s
  | some (.o d) => .ok d s
  | _ => .bad
theorem RPost.var {K : PySem.W.Frag} {σ : L2.St} {G H : Hp} {hs : List Addr} {s : DS} {η : Env} {i : Nat} {k : D → Hp → List Addr → DS → Hp → Prop} (h : RPost K M σ W G hs H (vD i η s) k) : ∃ d, η[i]? = some (.v d) ∧ ∀ G' hs' H', Stp M G hs H G' hs' H' → Sim K M G' hs' s H' → k d G' hs' s H' := by
  unfold vD at h
  split at h
  · exact ⟨_, by assumption, h⟩
  · exact h.elim
theorem RPost.varB {K : PySem.W.Frag} {σ : L2.St} {G H : Hp} {hs : List Addr} {s : DS} {η : Env} {i : Nat} {k : D → Hp → List Addr → DS → Hp → Prop} (h : RPost K M σ W G hs H (vB i η s) k) : ∃ d, (η[i]? = some (.v d) ∨ η[i]? = some (.o d)) ∧ ∀ G' hs' H', Stp M G hs H G' hs' H' → Sim K M G' hs' s H' → k d G' hs' s H' := by
  unfold vB at h
  split at h
  · exact ⟨_, .inl (by assumption), h⟩
  · exact ⟨_, .inr (by assumption), h⟩
  · exact h.elim
theorem Sm.bv {K : PySem.W.Frag} {A : Anc} {σ : L2.St} {H G : Hp} {hs : List Addr} {own : Nat → Addr} {η : Env} {s : DS} {i : Nat} {d : D} (I : Sm K M A σ H G hs own η s) (e : η[i]? = some (.v d) ∨ η[i]? = some (.o d)) : ∃ v, σ[i]? = some (some v) ∧ BV K M G hs H d v := by
  rcases e with e | e
  · obtain ⟨v, h1, h2⟩ := I.pl i d e
    exact ⟨v, h1, .inl h2⟩
  · obtain ⟨h1, h2, h3, h4, h5, h6⟩ := I.ow i d e
    exact ⟨_, h1, .inr ⟨_, rfl, h2, h4, h5, h3⟩⟩
theorem de_v (i : Nat) {x : Str} {pos : Pos} (hN : X.N[i]? = some x := by rfl) (hv : Vis X.env.scope x := by first | exact Or.inl rfl | exact Or.inr (Or.inl rfl) | exact Or.inr (Or.inr rfl)) (hd : (x == ("__debug__" : Str)) = false := by decide)
    (hcd : (x == ("__classdict__" : Str)) = false := by decide) : DE M X W (.Name x pos) (vD i) := by
  refine ⟨_, pe_var hN hv hd hcd, fun A σ H G hs own η s Q I r => ?_⟩
  obtain ⟨d, e, k⟩ := r.var
  obtain ⟨v, h1, h2⟩ := I.pl i d e
  exact ⟨v, h1, k G hs H (Stp.refl _ _ _ _) I.sim v h2⟩
theorem db_v (i : Nat) {x : Str} {pos : Pos} (hN : X.N[i]? = some x := by rfl) (hv : Vis X.env.scope x := by first | exact Or.inl rfl | exact Or.inr (Or.inl rfl) | exact Or.inr (Or.inr rfl)) (hd : (x == ("__debug__" : Str)) = false := by decide)
    (hcd : (x == ("__classdict__" : Str)) = false := by decide) : DB M X W (.Name x pos) (vB i) := by
  refine ⟨_, pe_var hN hv hd hcd, fun A σ H G hs own η s Q I r => ?_⟩
  obtain ⟨d, e, k⟩ := r.varB
  obtain ⟨v, h1, h2⟩ := I.bv e
  exact ⟨v, h1, k G hs H (Stp.refl _ _ _ _) I.sim v h2⟩
end
end DL
set_option Elab.async false
set_option linter.all false
set_option maxRecDepth 100000
set_option maxHeartbeats 2000000
namespace DL
open PySem PySem.Spec PyProof.Rows L2
section
variable (M : Mp) (X : Cx)
abbrev OEx (r : R2) (o : D → D → Option D) : Prop := ∀ (G : Hp) (hs : List Addr) (s : DS) (H : Hp) (x y z : D) (v u : V) (Q : VK), Sim X.K M G hs s H → RV X.K M G hs H x v → RV X.K M G hs H y u → o x y = some z →
    (∀ G' H', Stp M G hs H G' hs H' → Sim X.K M G' hs s H' → ∀ w, Rep X.K M G' hs z w → Q w H') → r v u H Q
structure OpD (op : Value → Value → Sem Value) (o : D → D → Option D) : Prop where
  ex : ∃ r, OpR X op r ∧ OEx M X r o
structure UnD (op : Value → Sem Value) (o : D → Option D) : Prop where
  ex : ∃ r, UnR X op r ∧ ∀ (G : Hp) (hs : List Addr) (s : DS) (H : Hp) (x z : D) (v : V) (Q : VK), Sim X.K M G hs s H → RV X.K M G hs H x v → o x = some z →
    (∀ G' H', Stp M G hs H G' hs H' → Sim X.K M G' hs s H' → ∀ w, Rep X.K M G' hs z w → Q w H') → r v H Q
end
/-- a op b -/
def bopD (o : D → D → Option D) (fa fb : Env → DS → R D) : Env → DS → R D := fun η s => (fa η s).bind fun x s1 => (fb η s1).bind fun y s2 => R.ofO (o (deref s2 x) (deref s2 y)) s2
def uopD (o : D → Option D) (fa : Env → DS → R D) : Env → DS → R D := fun η s => (fa η s).bind fun x s1 => R.ofO (o (deref s1 x)) s1
def asB : D → Option Bool
  | .bl b => some b
  | _ => none
/-- a value as a test -/
def tstD (fa : Env → DS → R D) : Env → DS → R Bool := fun η s => (fa η s).bind fun x s1 => R.ofO (asB x) s1
theorem asB_some {d : D} {b : Bool} (h : asB d = some b) : d = .bl b := by
  cases d <;> simp_all [asB]
section
variable {M : Mp} {X : Cx} {W : WX} {a b : Expr} {fa fb : Env → DS → R D} {pos : Pos}
theorem bin_run {op : Value → Value → Sem Value} {o : D → D → Option D} {r : R2} {ta tb : TE} {A : Anc} {σ : L2.St} {H G : Hp} {hs : List Addr} {own : Nat → Addr} {η : Env} {s : DS} {Q : VK}
    (hr : OEx M X r o)
    (ha : BEx M X W ta fa)
    (hb : BEx M X W tb fb)
    (I : Sm X.K M A σ H G hs own η s) (hp : RPost X.K M σ W G hs H (bopD o fa fb η s) (fun d G' hs' _ H' => ∀ v, Rep X.K M G' hs' d v → Q v H')) : tOp r ta tb σ H Q := by
  show ta σ H fun x H1 => tb σ H1 fun y H2 => r x y H2 Q
  refine ha A σ H G hs own η s _ I (hp.bind.mono fun x G1 hs1 s1 H1 S1 J1 h1 v hv => ?_)
  refine hb A σ H1 G1 hs1 own η s1 _ (I.step S1 J1) (h1.bind.mono fun y G2 hs2 s2 H2 S2 J2 h2 u hu => ?_)
  obtain ⟨z, e, k⟩ := h2.ofO
  exact hr G2 hs2 s2 H2 _ _ z v u Q J2 ((hv.step S2).read J2) (hu.read J2) e fun G3 H3 S3 J3 w hw => k G3 hs2 H3 S3 J3 w hw
theorem de_bin {op : Operator} {o : D → D → Option D} (ho : OpD M X (binaryOp op) o) (ha : DB M X W a fa) (hb : DB M X W b fb) : DE M X W (.BinOp a op b pos) (bopD o fa fb) := by
  obtain ⟨r, hr, h⟩ := ho.ex
  obtain ⟨ta, pa, ha⟩ := ha.ex
  obtain ⟨tb, pb, hb⟩ := hb.ex
  exact ⟨_, pe_op hr pa pb, fun A σ H G hs own η s Q I hp => bin_run (op := binaryOp op) h ha hb I hp⟩
theorem de_cmp {op : CmpOp} {o : D → D → Option D} (ho : OpD M X (compareOp op) o) (ha : DB M X W a fa) (hb : DB M X W b fb) (hm : behindInMarks op b = false) : DE M X W (.Compare a [op] [b] pos) (bopD o fa fb) := by
  obtain ⟨r, hr, h⟩ := ho.ex
  obtain ⟨ta, pa, ha⟩ := ha.ex
  obtain ⟨tb, pb, hb⟩ := hb.ex
  exact ⟨_, pe_cmpR hr pa pb hm, fun A σ H G hs own η s Q I hp => bin_run (op := compareOp op) h ha hb I hp⟩
theorem tst_run {σ : L2.St} {H G : Hp} {hs : List Addr} {η : Env} {s : DS} {Q : Bool → Hp → Prop} {t : TE} {f : Env → DS → R D}
    (h : ∀ Q, RPost X.K M σ W G hs H (f η s) (fun d G' hs' _ H' => ∀ v, Rep X.K M G' hs' d v → Q v H') → t σ H Q)
    (hp : RPost X.K M σ W G hs H (tstD f η s) (fun b _ _ _ H' => Q b H')) : t σ H fun x H' => ∃ k, x = .bl k ∧ Q k H' := by
  refine h _ (hp.bind.mono fun x G1 hs1 s1 H1 S1 J1 h1 v hv => ?_)
  obtain ⟨b, e, k⟩ := h1.ofO
  rw [asB_some e, rep_bl] at hv
  exact ⟨b, hv, k G1 hs1 H1 (Stp.refl _ _ _ _) J1⟩
theorem dt_cmp {op : CmpOp} {o : D → D → Option D} (ho : OpD M X (compareOp op) o) (ha : DB M X W a fa) (hb : DB M X W b fb) (hm : behindInMarks op b = false) : DT M X W (.Compare a [op] [b] pos) (tstD (bopD o fa fb)) := by
  obtain ⟨r, hr, h⟩ := ho.ex
  obtain ⟨ta, pa, ha⟩ := ha.ex
  obtain ⟨tb, pb, hb⟩ := hb.ex
  exact ⟨_, pt_cmpR hr pa pb hm, fun A σ H G hs own η s Q I hp => tst_run (f := bopD o fa fb) (fun Q hp => bin_run (op := compareOp op) h ha hb I hp) hp⟩
/-- any expression that gives a bool, as a test -/
theorem dt_val {e : Expr} {f : Env → DS → R D} (h : DE M X W e f) (he : ∀ whole, isTrue e X.env whole = (do let v ← whole; standAt e.pos; holding [v] (truthy v)) := by intro _; rfl) : DT M X W e (tstD f) := by
  obtain ⟨t, p, h⟩ := h.ex
  exact ⟨_, pt_val p he, fun A σ H G hs own η s Q I hp => tst_run (fun Q hp => h A σ H G hs own η s Q I hp) hp⟩
theorem de_un {op : UnaryOp} {o : D → Option D} (ho : UnD M X (unaryOp op) o) (ha : DB M X W a fa) (hpe : ∀ {r : V → Hp → VK → Prop} {ta : TE}, UnR X (unaryOp op) r → PE X a ta → PE X (.UnaryOp op a pos) (tUn r ta)) : DE M X W (.UnaryOp op a pos) (uopD o fa) := by
  obtain ⟨r, hr, h⟩ := ho.ex
  obtain ⟨ta, pa, ha⟩ := ha.ex
  refine ⟨_, hpe hr pa, fun A σ H G hs own η s Q I hp => ?_⟩
  show ta σ H fun x H1 => r x H1 Q
  refine ha A σ H G hs own η s _ I (hp.bind.mono fun x G1 hs1 s1 H1 S1 J1 h1 v hv => ?_)
  obtain ⟨z, e, k⟩ := h1.ofO
  exact h G1 hs1 s1 H1 _ z v Q J1 (hv.read J1) e fun G3 H3 S3 J3 w hw => k G3 hs1 H3 S3 J3 w hw
def chD (o o' : D → D → Option D) (fa fb fc : Env → DS → R D) : Env → DS → R D := fun η s => (fa η s).bind fun x s1 => (fb η s1).bind fun y s2 => (R.ofO (o (deref s2 x) (deref s2 y)) s2).bind fun z s3 =>
  (R.ofO (asB z) s3).bind fun k s3 => if k = true then (fc η s3).bind fun w s4 => R.ofO (o' (deref s4 y) (deref s4 w)) s4 else .ok (.bl false) s3
theorem ch_run {op op' : Value → Value → Sem Value} {o o' : D → D → Option D} {r r' : R2} {ta tb tc : TE} {fc : Env → DS → R D} {A : Anc} {σ : L2.St} {H G : Hp} {hs : List Addr} {own : Nat → Addr} {η : Env} {s : DS} {Q : VK}
    (hr : OEx M X r o)
    (hr' : OEx M X r' o')
    (ha : BEx M X W ta fa)
    (hb : BEx M X W tb fb)
    (hc : BEx M X W tc fc)
    (I : Sm X.K M A σ H G hs own η s) (hp : RPost X.K M σ W G hs H (chD o o' fa fb fc η s) (fun d G' hs' _ H' => ∀ v, Rep X.K M G' hs' d v → Q v H')) : tChain r r' ta tb tc σ H Q := by
  refine ha A σ H G hs own η s _ I (hp.bind.mono fun x G1 hs1 s1 H1 S1 J1 h1 v hv => ?_)
  refine hb A σ H1 G1 hs1 own η s1 _ (I.step S1 J1) (h1.bind.mono fun y G2 hs2 s2 H2 S2 J2 h2 u hu => ?_)
  obtain ⟨z, e, k⟩ := h2.bind.ofO
  refine hr G2 hs2 s2 H2 _ _ z v u _ J2 ((hv.step S2).read J2) (hu.read J2) e fun G3 H3 S3 J3 w hw => ?_
  obtain ⟨kb, e2, k2⟩ := (k G3 hs2 H3 S3 J3).bind.ofO
  rw [asB_some e2, rep_bl] at hw
  have k3 := k2 G3 hs2 H3 (Stp.refl _ _ _ _) J3
  refine ⟨kb, hw, ?_⟩
  cases kb with
  | false =>
    rw [if_neg Bool.false_ne_true]
    rw [if_neg Bool.false_ne_true] at k3
    exact k3 G3 hs2 H3 (Stp.refl _ _ _ _) J3 _ (rep_bl.mpr rfl)
  | true =>
    rw [if_pos rfl]
    rw [if_pos rfl] at k3
    refine hc A σ H3 G3 hs2 own η s2 _ (((I.step S1 J1).step S2 J2).step S3 J3) (k3.bind.mono fun q G4 hs4 s4 H4 S4 J4 h4 w4 hw4 => ?_)
    obtain ⟨z4, e4, k4⟩ := h4.ofO
    exact hr' G4 hs4 s4 H4 _ _ z4 u w4 _ J4 (((hu.step S3).step S4).read J4) (hw4.read J4) e4 fun G5 H5 S5 J5 w hw => k4 G5 hs4 H5 S5 J5 w hw
variable {c : Expr} {fc : Env → DS → R D}
theorem de_ch {op op' : CmpOp} {o o' : D → D → Option D} (ho : OpD M X (compareOp op) o) (ho' : OpD M X (compareOp op') o') (ha : DB M X W a fa) (hb : DB M X W b fb) (hc : DB M X W c fc) (hm : lastMarks [op, op'] [b, c] = false := by with_unfolding_all rfl) :
    DE M X W (.Compare a [op, op'] [b, c] pos) (chD o o' fa fb fc) := by
  obtain ⟨r, hr, h⟩ := ho.ex
  obtain ⟨r', hr', h'⟩ := ho'.ex
  obtain ⟨ta, pa, ha⟩ := ha.ex
  obtain ⟨tb, pb, hb⟩ := hb.ex
  obtain ⟨tc, pc, hc⟩ := hc.ex
  exact ⟨_, pe_chain hr hr' pa pb pc hm, fun A σ H G hs own η s Q I hp => ch_run (op := compareOp op) (op' := compareOp op') h h' ha hb hc I hp⟩
theorem dt_ch {op op' : CmpOp} {o o' : D → D → Option D} (ho : OpD M X (compareOp op) o) (ho' : OpD M X (compareOp op') o') (ha : DB M X W a fa) (hb : DB M X W b fb) (hc : DB M X W c fc) (hm : lastMarks [op, op'] [b, c] = false := by with_unfolding_all rfl) :
    DT M X W (.Compare a [op, op'] [b, c] pos) (tstD (chD o o' fa fb fc)) := by
  obtain ⟨r, hr, h⟩ := ho.ex
  obtain ⟨r', hr', h'⟩ := ho'.ex
  obtain ⟨ta, pa, ha⟩ := ha.ex
  obtain ⟨tb, pb, hb⟩ := hb.ex
  obtain ⟨tc, pc, hc⟩ := hc.ex
  exact ⟨_, pt_chain hr hr' pa pb pc hm, fun A σ H G hs own η s Q I hp => tst_run (f := chD o o' fa fb fc) (fun Q hp => ch_run (op := compareOp op) (op' := compareOp op') h h' ha hb hc I hp) hp⟩
def andT (f g : Env → DS → R Bool) : Env → DS → R Bool := fun η s => (f η s).bind fun b s1 => if b = true then g η s1 else .ok false s1
def orT (f g : Env → DS → R Bool) : Env → DS → R Bool := fun η s => (f η s).bind fun b s1 => if b = true then .ok true s1 else g η s1
def notT (f : Env → DS → R Bool) : Env → DS → R Bool := fun η s => (f η s).bind fun b s1 => .ok (!b) s1
def ifD (c : Env → DS → R Bool) (f g : Env → DS → R D) : Env → DS → R D := fun η s => (c η s).bind fun b s1 => if b = true then f η s1 else g η s1
variable {f g : Env → DS → R Bool} {rest : List Expr}
theorem DW.t {e : Expr} (h : DW M X W e f) : DT M X W e f := by
  obtain ⟨t, p, h⟩ := h.ex
  exact ⟨t, p.pt, h⟩
theorem dw_and1 (h : DT M X W a f) : DW M X W (.BoolOp .And [a] pos) f := by
  obtain ⟨t, p, h⟩ := h.ex
  exact ⟨t, pw_and1 p, h⟩
theorem dw_or1 (h : DT M X W a f) : DW M X W (.BoolOp .Or [a] pos) f := by
  obtain ⟨t, p, h⟩ := h.ex
  exact ⟨t, pw_or1 p, h⟩
theorem dw_and (ha : DT M X W a f) (hb : DW M X W (.BoolOp .And (b :: rest) pos) g) : DW M X W (.BoolOp .And (a :: b :: rest) pos) (andT f g) := by
  obtain ⟨t, p, h⟩ := ha.ex
  obtain ⟨u, q, k⟩ := hb.ex
  refine ⟨_, pw_and p q, fun A σ H G hs own η s Q I hp => ?_⟩
  refine h A σ H G hs own η s _ I (hp.bind.mono fun x G1 hs1 s1 H1 S1 J1 h1 => ?_)
  cases x with
  | true =>
    rw [if_pos rfl] at h1 ⊢
    exact k A σ H1 G1 hs1 own η s1 _ (I.step S1 J1) h1
  | false =>
    rw [if_neg Bool.false_ne_true] at h1 ⊢
    exact h1 G1 hs1 H1 (Stp.refl _ _ _ _) J1
theorem dw_or (ha : DT M X W a f) (hb : DW M X W (.BoolOp .Or (b :: rest) pos) g) : DW M X W (.BoolOp .Or (a :: b :: rest) pos) (orT f g) := by
  obtain ⟨t, p, h⟩ := ha.ex
  obtain ⟨u, q, k⟩ := hb.ex
  refine ⟨_, pw_or p q, fun A σ H G hs own η s Q I hp => ?_⟩
  refine h A σ H G hs own η s _ I (hp.bind.mono fun x G1 hs1 s1 H1 S1 J1 h1 => ?_)
  cases x with
  | false =>
    rw [if_neg Bool.false_ne_true] at h1 ⊢
    exact k A σ H1 G1 hs1 own η s1 _ (I.step S1 J1) h1
  | true =>
    rw [if_pos rfl] at h1 ⊢
    exact h1 G1 hs1 H1 (Stp.refl _ _ _ _) J1
theorem de_if (hc : DT M X W c f) (ha : DE M X W a fa) (hb : DE M X W b fb) : DE M X W (.IfExp c a b pos) (ifD f fa fb) := by
  obtain ⟨t, p, h⟩ := hc.ex
  obtain ⟨ta, pa, ha⟩ := ha.ex
  obtain ⟨tb, pb, hb⟩ := hb.ex
  refine ⟨_, pe_ifExp p pa pb, fun A σ H G hs own η s Q I hp => ?_⟩
  refine h A σ H G hs own η s _ I (hp.bind.mono fun x G1 hs1 s1 H1 S1 J1 h1 => ?_)
  cases x with
  | false =>
    rw [if_neg Bool.false_ne_true] at h1 ⊢
    exact hb A σ H1 G1 hs1 own η s1 _ (I.step S1 J1) h1
  | true =>
    rw [if_pos rfl] at h1 ⊢
    exact ha A σ H1 G1 hs1 own η s1 _ (I.step S1 J1) h1
theorem db_if (hc : DT M X W c f) (ha : DB M X W a fa) (hb : DB M X W b fb) : DB M X W (.IfExp c a b pos) (ifD f fa fb) := by
  obtain ⟨t, p, h⟩ := hc.ex
  obtain ⟨ta, pa, ha⟩ := ha.ex
  obtain ⟨tb, pb, hb⟩ := hb.ex
  refine ⟨_, pe_ifExp p pa pb, fun A σ H G hs own η s Q I hp => ?_⟩
  refine h A σ H G hs own η s _ I (hp.bind.mono fun x G1 hs1 s1 H1 S1 J1 h1 => ?_)
  cases x with
  | false =>
    rw [if_neg Bool.false_ne_true] at h1 ⊢
    exact hb A σ H1 G1 hs1 own η s1 _ (I.step S1 J1) h1
  | true =>
    rw [if_pos rfl] at h1 ⊢
    exact ha A σ H1 G1 hs1 own η s1 _ (I.step S1 J1) h1
/-- and, or, not as values (bools) -/
def andD (fa fb : Env → DS → R D) : Env → DS → R D := fun η s => (tstD fa η s).bind fun b s1 => if b = true then fb η s1 else .ok (.bl false) s1
def orD (fa fb : Env → DS → R D) : Env → DS → R D := fun η s => (tstD fa η s).bind fun b s1 => if b = true then .ok (.bl true) s1 else fb η s1
def notD (fa : Env → DS → R D) : Env → DS → R D := fun η s => (tstD fa η s).bind fun b s1 => .ok (.bl (!b)) s1
theorem de_one {op} (h : DE M X W a fa) : DE M X W (.BoolOp op [a] pos) fa := by
  obtain ⟨t, p, h⟩ := h.ex
  exact ⟨t, pe_one p, h⟩
theorem de_and (ha : DE M X W a fa) (hb : DE M X W (.BoolOp .And (b :: rest) pos) fb) : DE M X W (.BoolOp .And (a :: b :: rest) pos) (andD fa fb) := by
  obtain ⟨t, p, h⟩ := ha.ex
  obtain ⟨u, q, k⟩ := hb.ex
  refine ⟨_, pe_and p q, fun A σ H G hs own η s Q I hp => ?_⟩
  refine h A σ H G hs own η s _ I (hp.bind.bind.mono fun x G1 hs1 s1 H1 S1 J1 h1 v hv => ?_)
  obtain ⟨b, e, k1⟩ := h1.ofO
  rw [asB_some e, rep_bl] at hv
  have k2 := k1 G1 hs1 H1 (Stp.refl _ _ _ _) J1
  refine ⟨b, hv, ?_⟩
  cases b with
  | true =>
    rw [if_pos rfl] at k2 ⊢
    exact k A σ H1 G1 hs1 own η s1 _ (I.step S1 J1) k2
  | false =>
    rw [if_neg Bool.false_ne_true] at k2 ⊢
    exact k2 G1 hs1 H1 (Stp.refl _ _ _ _) J1 _ (rep_bl.mpr rfl)
theorem de_or (ha : DE M X W a fa) (hb : DE M X W (.BoolOp .Or (b :: rest) pos) fb) : DE M X W (.BoolOp .Or (a :: b :: rest) pos) (orD fa fb) := by
  obtain ⟨t, p, h⟩ := ha.ex
  obtain ⟨u, q, k⟩ := hb.ex
  refine ⟨_, pe_or p q, fun A σ H G hs own η s Q I hp => ?_⟩
  refine h A σ H G hs own η s _ I (hp.bind.bind.mono fun x G1 hs1 s1 H1 S1 J1 h1 v hv => ?_)
  obtain ⟨b, e, k1⟩ := h1.ofO
  rw [asB_some e, rep_bl] at hv
  have k2 := k1 G1 hs1 H1 (Stp.refl _ _ _ _) J1
  refine ⟨b, hv, ?_⟩
  cases b with
  | false =>
    rw [if_neg Bool.false_ne_true] at k2 ⊢
    exact k A σ H1 G1 hs1 own η s1 _ (I.step S1 J1) k2
  | true =>
    rw [if_pos rfl] at k2 ⊢
    exact k2 G1 hs1 H1 (Stp.refl _ _ _ _) J1 _ (rep_bl.mpr rfl)
theorem de_not (ha : DE M X W a fa) : DE M X W (.UnaryOp .Not a pos) (notD fa) := by
  obtain ⟨t, p, h⟩ := ha.ex
  refine ⟨_, pe_not p, fun A σ H G hs own η s Q I hp => ?_⟩
  refine h A σ H G hs own η s _ I (hp.bind.bind.mono fun x G1 hs1 s1 H1 S1 J1 h1 v hv => ?_)
  obtain ⟨b, e, k1⟩ := h1.ofO
  rw [asB_some e, rep_bl] at hv
  exact ⟨b, hv, k1 G1 hs1 H1 (Stp.refl _ _ _ _) J1 G1 hs1 H1 (Stp.refl _ _ _ _) J1 _ (rep_bl.mpr rfl)⟩
end
end DL
set_option Elab.async false
set_option linter.all false
set_option maxRecDepth 100000
set_option maxHeartbeats 2000000
namespace DL
open PySem PySem.Spec PyProof.Rows L2
theorem line_ : (sizeLine : Nat) = 16777216 := sizeLine_eq
def opAdd : D → D → Option D
  | .int a, .int b => some (.int (a + b))
  | .str a, .str b => if a.length + b.length ≤ 16777216 then some (.str (a ++ b)) else none
  | .lst a, .lst b => if a.length + b.length ≤ 16777216 then some (.lst (a ++ b)) else none
  | .tup a, .tup b => if a.length + b.length ≤ 16777216 then some (.tup (a ++ b)) else none
  | _, _ => none
def opSub : D → D → Option D
  | .int a, .int b => some (.int (a - b))
  | _, _ => none
/-- decided by no reckoning: the kernel does not look in -/
noncomputable def cl (p : Prop) : Bool := @decide p (Classical.propDecidable p)
theorem cl_iff {p : Prop} : cl p = true ↔ p := by
  unfold cl
  exact @decide_eq_true_iff p (Classical.propDecidable p)
theorem cl_yes {p : Prop} (h : p) : cl p = true := cl_iff.mpr h
noncomputable def small64 (a : Int) : Bool := cl (-18446744073709551616 < a ∧ a < 18446744073709551616)
noncomputable def opMul : D → D → Option D
  | .int a, .int b => if (small64 a || small64 b) = true then some (.int (a * b)) else none
  | .lst a, .int b => if cl (-1000000 ≤ b ∧ b ≤ 1000000 ∧ a.length * b.toNat ≤ 16777216) = true then some (.lst (List.replicate b.toNat a).flatten) else none
  | _, _ => none
noncomputable def opDiv : D → D → Option D
  | .int a, .int b => if cl (0 < b ∧ b < 18446744073709551616) = true then some (.int (a / b)) else none
  | _, _ => none
def opMod : D → D → Option D
  | .int a, .int b => if 0 < b then some (.int (a % b)) else none
  | _, _ => none
noncomputable def opPow : D → D → Option D
  | .int a, .int b => if cl (0 ≤ b ∧ b ≤ 1000 ∧ -1000000 ≤ a ∧ a ≤ 1000000) = true then some (.int (a ^ b.toNat)) else none
  | _, _ => none
def opNeg : D → Option D
  | .int a => some (.int (-a))
  | _ => none
def strLt (a b : Str) : Bool := decide (a.cps.toList < b.cps.toList)
def opLt : D → D → Option D
  | .int a, .int b => some (.bl (decide (a < b)))
  | .str a, .str b => some (.bl (strLt a b))
  | _, _ => none
def opLe : D → D → Option D
  | .int a, .int b => some (.bl (decide (a ≤ b)))
  | _, _ => none
def opGt : D → D → Option D
  | .int a, .int b => some (.bl (decide (b < a)))
  | .str a, .str b => some (.bl (strLt b a))
  | _, _ => none
def opGe : D → D → Option D
  | .int a, .int b => some (.bl (decide (b ≤ a)))
  | _, _ => none
section
variable {M : Mp} {X : Cx}
theorem Stp.new {K : PySem.W.Frag} {G H : Hp} {hs : List Addr} {s : DS} {p : Addr} {o : HO} {k : Hp → Hp → Prop} (J : Sim K M G hs s H) (h : H p = none) (no : ∀ ps, o ≠ .tbl ps) (q : ∀ G' H', Stp M G hs H G' hs H' → Sim K M G' hs s H' → k G' H') : k (upd G p o) (upd H p o) :=
  q _ _ (J.laid h no).1 (J.laid h no).2
theorem repL_up {K : PySem.W.Frag} {G : Hp} {hs : List Addr} {p : Addr} {o : HO} {ds : List D} {vs : List V} (g : G p = none) (r : RepL K M G hs ds vs) : RepL K M (upd G p o) hs ds vs := r.mono (same_upd g) (Pre.refl _)
theorem rep_newL {K : PySem.W.Frag} {G : Hp} {hs : List Addr} {p : Addr} {ds : List D} {vs : List V} (g : G p = none) (r : RepL K M G hs ds vs) : Rep K M (upd G p (.lst vs)) hs (.lst ds) (.ref p) := rep_lst.mpr ⟨p, vs, rfl, upd_same, repL_up g r⟩
theorem rep_newT {K : PySem.W.Frag} {G : Hp} {hs : List Addr} {p : Addr} {ds : List D} {vs : List V} (g : G p = none) (r : RepL K M G hs ds vs) : Rep K M (upd G p (.tup vs)) hs (.tup ds) (.ref p) := rep_tupR upd_same (repL_up g r)
theorem od_add : OpD M X (binaryOp .Add) opAdd := by
  refine ⟨_, (op_add.or op_add_str).or (op_cat.or op_catA), fun G hs s H x y z v u Q J hx hy e k => ?_⟩
  unfold opAdd at e
  split at e
  · cases e
    exact .inl (.inl ⟨_, _, hx.int, hy.int, k G H (Stp.refl _ _ _ _) J _ (rep_int.mpr rfl)⟩)
  · rename_i a b
    split at e
    · rename_i hl
      cases e
      exact .inl (.inr ⟨_, _, hx.str, hy.str, by rw [line_]; exact hl, k G H (Stp.refl _ _ _ _) J _ (rep_str.mpr rfl)⟩)
    · cases e
  · rename_i a b
    split at e
    · rename_i hl
      cases e
      obtain ⟨l, vs, rfl, h1, r1⟩ := hx.lst J
      obtain ⟨l', vs', rfl, h1', r1'⟩ := hy.lst J
      refine .inr (.inl ⟨l, l', vs, vs', rfl, rfl, h1, h1', by rw [line_, ← r1.length, ← r1'.length]; exact hl, fun p hp => ?_⟩)
      exact k _ _ (J.laid hp).1 (J.laid hp).2 _ (rep_newL (J.free hp).1 (r1.append r1'))
    · cases e
  · rename_i a b
    split at e
    · rename_i hl
      cases e
      obtain ⟨l, vs, rfl, h1, r1⟩ := hx.tup J
      obtain ⟨l', vs', rfl, h1', r1'⟩ := hy.tup J
      refine .inr (.inr ⟨l, l', vs, vs', rfl, rfl, h1, h1', by rw [line_, ← r1.length, ← r1'.length]; exact hl, fun z => ?_, fun _ z => ?_, fun _ _ p hp => ?_⟩)
      · have ez : a = [] := by
          have := r1.length
          rw [z] at this
          exact List.length_eq_zero_iff.mp this
        subst ez
        have hy' : Rep X.K M G hs (.tup b) (.ref l') := by
          rcases hy with hy | ⟨_, _, hy⟩
          · exact hy
          · exact hy.elim
        exact k G H (Stp.refl _ _ _ _) J _ hy'
      · have ez : b = [] := by
          have := r1'.length
          rw [z] at this
          exact List.length_eq_zero_iff.mp this
        subst ez
        have hx' : Rep X.K M G hs (.tup a) (.ref l) := by
          rcases hx with hx | ⟨_, _, hx⟩
          · exact hx
          · exact hx.elim
        rw [List.append_nil] at k
        exact k G H (Stp.refl _ _ _ _) J _ hx'
      · exact k _ _ (J.laid hp).1 (J.laid hp).2 _ (rep_newT (J.free hp).1 (r1.append r1'))
    · cases e
  · cases e
theorem od_sub : OpD M X (binaryOp .Sub) opSub := by
  refine ⟨_, op_sub, fun G hs s H x y z v u Q J hx hy e k => ?_⟩
  unfold opSub at e
  split at e
  · cases e
    exact ⟨_, _, hx.int, hy.int, k G H (Stp.refl _ _ _ _) J _ (rep_int.mpr rfl)⟩
  · cases e
theorem od_mul : OpD M X (binaryOp .Mult) opMul := by
  refine ⟨_, op_mul.or op_rep, fun G hs s H x y z v u Q J hx hy e k => ?_⟩
  unfold opMul at e
  split at e
  · rename_i a b
    split at e
    · rename_i hl
      cases e
      refine .inl ⟨_, _, hx.int, hy.int, ?_, k G H (Stp.refl _ _ _ _) J _ (rep_int.mpr rfl)⟩
      have p : (2 : Int) ^ 64 = 18446744073709551616 := by decide
      unfold CMul
      rw [p]
      simpa [small64, Bool.or_eq_true, cl_iff] using hl
    · cases e
  · rename_i a b
    split at e
    · rename_i hl
      have hl := cl_iff.mp hl
      cases e
      obtain ⟨l, vs, rfl, h1, r1⟩ := hx.lst J
      refine .inr ⟨l, b, vs, rfl, hy.int, h1, by omega, by omega, by rw [line_, ← r1.length]; exact hl.2.2, fun p hp => ?_⟩
      refine k _ _ (J.laid hp).1 (J.laid hp).2 _ (rep_newL (J.free hp).1 ?_)
      have rr : ∀ n : Nat, RepL X.K M G hs (List.replicate n a).flatten (List.replicate n vs).flatten := fun n => by
        induction n with
        | zero => exact repL_nil.mpr rfl
        | succ n ih =>
          rw [List.replicate_succ, List.replicate_succ, List.flatten_cons, List.flatten_cons]
          exact r1.append ih
      exact rr _
    · cases e
  · cases e
theorem od_div : OpD M X (binaryOp .FloorDiv) opDiv := by
  refine ⟨_, op_fdivW, fun G hs s H x y z v u Q J hx hy e k => ?_⟩
  unfold opDiv at e
  split at e
  · rename_i a b
    split at e
    · rename_i hl
      have hl := cl_iff.mp hl
      cases e
      refine ⟨_, _, hx.int, hy.int, wide_div (b := 64) hl.1 ?_ (by decide) (by decide), k G H (Stp.refl _ _ _ _) J _ (rep_int.mpr rfl)⟩
      have p : (2 : Nat) ^ 64 = 18446744073709551616 := by decide
      rw [p]
      omega
    · cases e
  · cases e
theorem od_mod : OpD M X (binaryOp .Mod) opMod := by
  refine ⟨_, op_mod, fun G hs s H x y z v u Q J hx hy e k => ?_⟩
  unfold opMod at e
  split at e
  · split at e
    · rename_i hl
      cases e
      exact ⟨_, _, hx.int, hy.int, hl, k G H (Stp.refl _ _ _ _) J _ (rep_int.mpr rfl)⟩
    · cases e
  · cases e
theorem od_pow : OpD M X (binaryOp .Pow) opPow := by
  refine ⟨_, op_pow, fun G hs s H x y z v u Q J hx hy e k => ?_⟩
  unfold opPow at e
  split at e
  · split at e
    · rename_i hl
      have hl := cl_iff.mp hl
      cases e
      refine ⟨_, _, hx.int, hy.int, ⟨hl.1, by omega, ?_⟩, k G H (Stp.refl _ _ _ _) J _ (rep_int.mpr rfl)⟩
      have p : (2 : Nat) ^ 64 = 18446744073709551616 := by decide
      rw [p]
      omega
    · cases e
  · cases e
theorem ud_neg : UnD M X (unaryOp .USub) opNeg := by
  refine ⟨_, un_neg, fun G hs s H x z v Q J hx e k => ?_⟩
  unfold opNeg at e
  split at e
  · cases e
    exact ⟨_, hx.int, k G H (Stp.refl _ _ _ _) J _ (rep_int.mpr rfl)⟩
  · cases e
theorem od_lt : OpD M X (compareOp .Lt) opLt := by
  refine ⟨_, op_lt.or op_lt_str, fun G hs s H x y z v u Q J hx hy e k => ?_⟩
  unfold opLt at e
  split at e
  · cases e
    exact .inl ⟨_, _, hx.int, hy.int, k G H (Stp.refl _ _ _ _) J _ (rep_bl.mpr rfl)⟩
  · cases e
    exact .inr ⟨_, _, hx.str, hy.str, k G H (Stp.refl _ _ _ _) J _ (rep_bl.mpr rfl)⟩
  · cases e
theorem od_le : OpD M X (compareOp .LtE) opLe := by
  refine ⟨_, op_le, fun G hs s H x y z v u Q J hx hy e k => ?_⟩
  unfold opLe at e
  split at e
  · cases e
    exact ⟨_, _, hx.int, hy.int, k G H (Stp.refl _ _ _ _) J _ (rep_bl.mpr rfl)⟩
  · cases e
theorem od_gt : OpD M X (compareOp .Gt) opGt := by
  refine ⟨_, op_gt.or op_gt_str, fun G hs s H x y z v u Q J hx hy e k => ?_⟩
  unfold opGt at e
  split at e
  · cases e
    exact .inl ⟨_, _, hx.int, hy.int, k G H (Stp.refl _ _ _ _) J _ (rep_bl.mpr rfl)⟩
  · cases e
    exact .inr ⟨_, _, hx.str, hy.str, k G H (Stp.refl _ _ _ _) J _ (rep_bl.mpr rfl)⟩
  · cases e
theorem od_ge : OpD M X (compareOp .GtE) opGe := by
  refine ⟨_, op_ge, fun G hs s H x y z v u Q J hx hy e k => ?_⟩
  unfold opGe at e
  split at e
  · cases e
    exact ⟨_, _, hx.int, hy.int, k G H (Stp.refl _ _ _ _) J _ (rep_bl.mpr rfl)⟩
  · cases e
mutual
def dOk : D → Bool
  | .non => true
  | .bl _ => true
  | .int _ => true
  | .str x => PyData.strOk x
  | .tup l => dOkL l
  | .lst l => dOkL l
  | .dic _ => false
  | .obj _ _ => false
  | .han _ => false
  | .scr _ => false
  | .tup0 _ => false
  | .dit _ => false
  | .clo _ _ => false
def dOkL : List D → Bool
  | [] => true
  | d :: l => dOk d && dOkL l
end
mutual
def dDep : D → Nat
  | .tup l => dDepL l + 1
  | .lst l => dDepL l + 1
  | .non => 0
  | .bl _ => 0
  | .int _ => 0
  | .str _ => 0
  | .dic _ => 0
  | .obj _ _ => 0
  | .han _ => 0
  | .scr _ => 0
  | .tup0 _ => 0
  | .dit _ => 0
  | .clo _ _ => 0
def dDepL : List D → Nat
  | [] => 0
  | d :: l => max (dDep d) (dDepL l)
end
mutual
def toPD : D → PyData
  | .non => .none
  | .bl b => .bool b
  | .int i => .int i
  | .str x => .str x
  | .tup l => .tuple (toPDL l)
  | .lst l => .list (toPDL l)
  | .dic _ => .none
  | .obj _ _ => .none
  | .han _ => .none
  | .scr _ => .none
  | .tup0 _ => .none
  | .dit _ => .none
  | .clo _ _ => .none
def toPDL : List D → List PyData
  | [] => []
  | d :: l => toPD d :: toPDL l
end
mutual
def eqB : D → D → Bool
  | .non, .non => true
  | .bl a, .bl b => a == b
  | .bl a, .int j => (if a then 1 else 0) == j
  | .int i, .bl b => i == (if b then 1 else 0)
  | .int i, .int j => i == j
  | .str x, .str y => x == y
  | .lst xs, .lst ys => eqBL xs ys
  | .tup xs, .tup ys => eqBL xs ys
  | _, _ => false
def eqBL : List D → List D → Bool
  | [], [] => true
  | x :: xs, y :: ys => eqB x y && eqBL xs ys
  | _, _ => false
end
mutual
theorem eqv_toPD : ∀ (d e : D), dOk d = true → dOk e = true → PyData.eqv (toPD d) (toPD e) = eqB d e
  | .non, e, _, he => by cases e <;> simp_all [toPD, PyData.eqv, eqB, dOk]
  | .bl b, e, _, he => by cases e <;> simp_all [toPD, PyData.eqv, eqB, dOk]
  | .int i, e, _, he => by cases e <;> simp_all [toPD, PyData.eqv, eqB, dOk]
  | .str x, e, _, he => by cases e <;> simp_all [toPD, PyData.eqv, eqB, dOk]
  | .tup l, e, hd, he => by
    cases e with
    | tup l' =>
      have h1 : dOkL l = true := by simpa [dOk] using hd
      have h2 : dOkL l' = true := by simpa [dOk] using he
      simp only [toPD, PyData.eqv, eqB]
      exact eqv_toPDL l l' h1 h2
    | _ => simp_all [toPD, PyData.eqv, eqB, dOk]
  | .lst l, e, hd, he => by
    cases e with
    | lst l' =>
      have h1 : dOkL l = true := by simpa [dOk] using hd
      have h2 : dOkL l' = true := by simpa [dOk] using he
      simp only [toPD, PyData.eqv, eqB]
      exact eqv_toPDL l l' h1 h2
    | _ => simp_all [toPD, PyData.eqv, eqB, dOk]
  | .dic _, _, h, _ => by simp [dOk] at h
  | .obj _ _, _, h, _ => by simp [dOk] at h
  | .han _, _, h, _ => by simp [dOk] at h
  | .scr _, _, h, _ => by simp [dOk] at h
  | .tup0 _, _, h, _ => by simp [dOk] at h
  | .dit _, _, h, _ => by simp [dOk] at h
  | .clo _ _, _, h, _ => by simp [dOk] at h
theorem eqv_toPDL : ∀ (d e : List D), dOkL d = true → dOkL e = true → PyData.eqvAll (toPDL d) (toPDL e) = eqBL d e
  | [], e, _, _ => by cases e <;> simp [toPDL, PyData.eqvAll, eqBL]
  | d :: l, [], _, _ => by simp [toPDL, PyData.eqvAll, eqBL]
  | d :: l, e :: l', h, h' => by
    have h1 : dOk d = true ∧ dOkL l = true := by simpa [dOkL] using h
    have h2 : dOk e = true ∧ dOkL l' = true := by simpa [dOkL] using h'
    simp only [toPDL, PyData.eqvAll, eqBL]
    rw [eqv_toPD d e h1.1 h2.1, eqv_toPDL l l' h1.2 h2.2]
end
mutual
theorem lay_toPD : ∀ (d : D), dOk d = true → (toPD d).canLay0 = true ∧ (toPD d).depth = dDep d
  | .non, _ => by simp [toPD, PyData.canLay0, PyData.depth, dDep]
  | .bl b, _ => by simp [toPD, PyData.canLay0, PyData.depth, dDep]
  | .int i, _ => by simp [toPD, PyData.canLay0, PyData.depth, dDep]
  | .str x, h => by
    have h1 : PyData.strOk x = true := by simpa [dOk] using h
    simp [toPD, PyData.canLay0, PyData.depth, dDep, h1]
  | .tup l, h => by
    have h1 : dOkL l = true := by simpa [dOk] using h
    obtain ⟨a, b⟩ := lay_toPDL l h1
    simp [toPD, PyData.canLay0, PyData.depth, dDep, a, b]
  | .lst l, h => by
    have h1 : dOkL l = true := by simpa [dOk] using h
    obtain ⟨a, b⟩ := lay_toPDL l h1
    simp [toPD, PyData.canLay0, PyData.depth, dDep, a, b]
  | .dic _, h => by simp [dOk] at h
  | .obj _ _, h => by simp [dOk] at h
  | .han _, h => by simp [dOk] at h
  | .scr _, h => by simp [dOk] at h
  | .tup0 _, h => by simp [dOk] at h
  | .dit _, h => by simp [dOk] at h
  | .clo _ _, h => by simp [dOk] at h
theorem lay_toPDL : ∀ (d : List D), dOkL d = true → PyData.canLayAll0 (toPDL d) = true ∧ PyData.depthAll (toPDL d) = dDepL d
  | [], _ => by simp [toPDL, PyData.canLayAll0, PyData.depthAll, dDepL]
  | d :: l, h => by
    have h1 : dOk d = true ∧ dOkL l = true := by simpa [dOkL] using h
    obtain ⟨a, b⟩ := lay_toPD d h1.1
    obtain ⟨a', b'⟩ := lay_toPDL l h1.2
    simp [toPDL, PyData.canLayAll0, PyData.depthAll, dDepL, a, b, a', b']
end
theorem shaped_toPD {d : D} (h : dOk d = true) (h2 : dDep d ≤ 60) : SeqAt.shaped (toPD d) = true := by
  obtain ⟨a, b⟩ := lay_toPD d h
  unfold SeqAt.shaped
  rw [a, b]
  simp
  omega
mutual
theorem dp_of {K : PySem.W.Frag} {G H : Hp} {hs : List Addr} (e : Same G H) : ∀ (d : D) (v : V), dOk d = true → Rep K M G hs d v → Dp K H v (toPD d)
  | .non, v, _, h => by rw [rep_non] at h; subst h; simp only [toPD]; exact .non
  | .bl b, v, _, h => by rw [rep_bl] at h; subst h; simp only [toPD]; exact .bl b
  | .int i, v, _, h => by rw [rep_int] at h; subst h; simp only [toPD]; exact .int i
  | .str x, v, _, h => by rw [rep_str] at h; subst h; simp only [toPD]; exact .str x
  | .tup l, v, h0, h => by
    obtain ⟨a, vs, rfl, h2, h3⟩ := rep_tup h
    simp only [toPD]
    exact .tup (same_seqT e h2) (dp_ofL e l vs (by simpa [dOk] using h0) h3)
  | .lst l, v, h0, h => by
    obtain ⟨a, vs, rfl, h2, h3⟩ := rep_lst.mp h
    simp only [toPD]
    exact .lst (SqL.of (e _ _ h2)) (dp_ofL e l vs (by simpa [dOk] using h0) h3)
  | .dic _, _, h, _ => by simp [dOk] at h
  | .obj _ _, _, h, _ => by simp [dOk] at h
  | .han _, _, h, _ => by simp [dOk] at h
  | .scr _, _, h, _ => by simp [dOk] at h
  | .tup0 _, _, h, _ => by simp [dOk] at h
  | .dit _, _, h, _ => by simp [dOk] at h
  | .clo _ _, _, h, _ => by simp [dOk] at h
theorem dp_ofL {K : PySem.W.Frag} {G H : Hp} {hs : List Addr} (e : Same G H) : ∀ (d : List D) (v : List V), dOkL d = true → RepL K M G hs d v → DpAll K H v (toPDL d)
  | [], v, _, h => by rw [repL_nil] at h; subst h; simp only [toPDL]; exact .nil
  | d :: l, v, h0, h => by
    have h1 : dOk d = true ∧ dOkL l = true := by simpa [dOkL] using h0
    rw [repL_cons] at h
    obtain ⟨w, vr, rfl, h2, h3⟩ := h
    simp only [toPDL]
    exact .cons (dp_of e d w h1.1 h2) (dp_ofL e l vr h1.2 h3)
end
theorem RV.dp {K : PySem.W.Frag} {G H : Hp} {hs : List Addr} {s : DS} (J : Sim K M G hs s H) {d : D} {v : V} (h0 : dOk d = true) (h : RV K M G hs H d v) : Dp K H v (toPD d) := by
  cases d with
  | lst l =>
    obtain ⟨a, vs, rfl, h2, h3⟩ := h.lst J
    simp only [toPD]
    exact .lst (SqL.of h2) (dp_ofL J.sub l vs (by simpa [dOk] using h0) h3)
  | dic _ => simp [dOk] at h0
  | obj _ _ => simp [dOk] at h0
  | han _ => simp [dOk] at h0
  | scr _ => simp [dOk] at h0
  | tup0 _ => simp [dOk] at h0
  | dit _ => simp [dOk] at h0
  | clo _ _ => simp [dOk] at h0
  | _ =>
    rcases h with h | ⟨_, _, h⟩
    · exact dp_of J.sub _ v h0 h
    · exact h.elim
def eqOk (x y : D) : Bool := dOk x && dOk y && decide (dDep x ≤ 60) && decide (dDep y ≤ 60)
/-- a row against a text -/
def seqStr : D → D → Bool
  | .tup _, .str _ => true
  | .lst _, .str _ => true
  | .str _, .tup _ => true
  | .str _, .lst _ => true
  | _, _ => false
def opEq (x y : D) : Option D := if eqOk x y = true then some (.bl (eqB x y)) else if seqStr x y = true then some (.bl false) else none
def opNe (x y : D) : Option D := if eqOk x y = true then some (.bl (!eqB x y)) else if seqStr x y = true then some (.bl true) else none
def rSeqStr (K : PySem.W.Frag) (r : Bool) : R2 := fun x y H Q => (∃ a vs z, ((x = .ref a ∧ y = .str z) ∨ (x = .str z ∧ y = .ref a)) ∧ (SqL K H a vs ∨ SqT K H a vs)) ∧ Q (.bl r) H
theorem op_eqSS (hu : X.A.units < cLine) : OpR X (compareOp .Eq) (rSeqStr X.K false) := by
  intro pins s σ H x y v u Q I rx ry h
  obtain ⟨⟨a, vs, z, h, k⟩, q⟩ := h
  have done : EP X pins σ Q (.bool false) s := ⟨.bl false, H, I, rfl, q⟩
  rcases h with ⟨rfl, rfl⟩ | ⟨rfl, rfl⟩
  · cases (show v = Value.ref a from rx)
    obtain ⟨t, rfl⟩ := ry
    rcases k with k | k
    · obtain ⟨its, _, p, _⟩ := I.list k
      exact SeqAt.RcAt.list_str _ _ p.isList hu _ _ _ _ done
    · obtain ⟨its, _, p, _⟩ := I.tuple k
      exact SeqAt.RcAt.tuple_str _ _ p hu _ _ _ _ done
  · cases (show u = Value.ref a from ry)
    obtain ⟨t, rfl⟩ := rx
    rcases k with k | k
    · obtain ⟨its, _, p, _⟩ := I.list k
      exact SeqAt.RcAt.str_list _ _ p.isList hu _ _ _ _ done
    · obtain ⟨its, _, p, _⟩ := I.tuple k
      exact SeqAt.RcAt.str_tuple _ _ p hu _ _ _ _ done
theorem op_neSS (hu : X.A.units < cLine) : OpR X (compareOp .NotEq) (rSeqStr X.K true) := by
  intro pins s σ H x y v u Q I rx ry h
  obtain ⟨⟨a, vs, z, h, k⟩, q⟩ := h
  have done : EP X pins σ Q (.bool true) s := ⟨.bl true, H, I, rfl, q⟩
  rcases h with ⟨rfl, rfl⟩ | ⟨rfl, rfl⟩
  · cases (show v = Value.ref a from rx)
    obtain ⟨t, rfl⟩ := ry
    rcases k with k | k
    · obtain ⟨its, _, p, _⟩ := I.list k
      exact SeqAt.RcNeAt.list_str _ _ p.isList hu _ _ _ _ done
    · obtain ⟨its, _, p, _⟩ := I.tuple k
      exact SeqAt.RcNeAt.tuple_str _ _ p hu _ _ _ _ done
  · cases (show u = Value.ref a from ry)
    obtain ⟨t, rfl⟩ := rx
    rcases k with k | k
    · obtain ⟨its, _, p, _⟩ := I.list k
      exact SeqAt.RcNeAt.str_list _ _ p.isList hu _ _ _ _ done
    · obtain ⟨its, _, p, _⟩ := I.tuple k
      exact SeqAt.RcNeAt.str_tuple _ _ p hu _ _ _ _ done
theorem seqStr_run {G H : Hp} {hs : List Addr} {s : DS} {x y : D} {v u : V} {r : Bool} {Q : VK} (J : Sim X.K M G hs s H) (hx : RV X.K M G hs H x v) (hy : RV X.K M G hs H y u) (h : seqStr x y = true) (q : Q (.bl r) H) : rSeqStr X.K r v u H Q := by
  refine ⟨?_, q⟩
  cases x <;> cases y <;> first | exact absurd h Bool.false_ne_true | skip
  · cases hx.str
    obtain ⟨a, vs, rfl, h1, _⟩ := hy.tup J
    exact ⟨a, vs, _, .inr ⟨rfl, rfl⟩, .inr h1⟩
  · cases hx.str
    obtain ⟨a, vs, rfl, h1, _⟩ := hy.lst J
    exact ⟨a, vs, _, .inr ⟨rfl, rfl⟩, .inl (.inl (.inl h1))⟩
  · cases hy.str
    obtain ⟨a, vs, rfl, h1, _⟩ := hx.tup J
    exact ⟨a, vs, _, .inl ⟨rfl, rfl⟩, .inr h1⟩
  · cases hy.str
    obtain ⟨a, vs, rfl, h1, _⟩ := hx.lst J
    exact ⟨a, vs, _, .inl ⟨rfl, rfl⟩, .inl (.inl (.inl h1))⟩
theorem eqOk_of {x y : D} (h : eqOk x y = true) : dOk x = true ∧ dOk y = true ∧ dDep x ≤ 60 ∧ dDep y ≤ 60 := by
  unfold eqOk at h
  simp only [Bool.and_eq_true, decide_eq_true_eq] at h
  exact ⟨h.1.1.1, h.1.1.2, h.1.2, h.2⟩
theorem od_eq (hu : X.A.units + 64 < cLine) : OpD M X (compareOp .Eq) opEq := by
  refine ⟨_, (op_eqD hu).or (op_eqSS (by omega)), fun G hs s H x y z v u Q J hx hy e k => ?_⟩
  unfold opEq at e
  split at e
  · rename_i h
    cases e
    obtain ⟨h1, h2, h3, h4⟩ := eqOk_of h
    refine .inl ⟨_, _, hx.dp J h1, hy.dp J h2, shaped_toPD h1 h3, shaped_toPD h2 h4, ?_⟩
    rw [eqv_toPD x y h1 h2]
    exact k G H (Stp.refl _ _ _ _) J _ (rep_bl.mpr rfl)
  · split at e
    · rename_i h
      cases e
      exact .inr (seqStr_run J hx hy h (k G H (Stp.refl _ _ _ _) J _ (rep_bl.mpr rfl)))
    · cases e
theorem od_ne (hu : X.A.units + 64 < cLine) : OpD M X (compareOp .NotEq) opNe := by
  refine ⟨_, (op_neD hu).or (op_neSS (by omega)), fun G hs s H x y z v u Q J hx hy e k => ?_⟩
  unfold opNe at e
  split at e
  · rename_i h
    cases e
    obtain ⟨h1, h2, h3, h4⟩ := eqOk_of h
    refine .inl ⟨_, _, hx.dp J h1, hy.dp J h2, shaped_toPD h1 h3, shaped_toPD h2 h4, ?_⟩
    rw [eqv_toPD x y h1 h2]
    exact k G H (Stp.refl _ _ _ _) J _ (rep_bl.mpr rfl)
  · split at e
    · rename_i h
      cases e
      exact .inr (seqStr_run J hx hy h (k G H (Stp.refl _ _ _ _) J _ (rep_bl.mpr rfl)))
    · cases e
end
end DL
set_option Elab.async false
set_option linter.all false
set_option maxRecDepth 100000
set_option maxHeartbeats 2000000
namespace DL
open PySem PySem.Spec PyProof.Rows L2
def nilA : Env → DS → R (List D) := fun _ s => .ok [] s
def consA (f : Env → DS → R D) (g : Env → DS → R (List D)) : Env → DS → R (List D) := fun η s => (f η s).bind fun d s1 => (g η s1).bind fun ds s2 => .ok (d :: ds) s2
section
variable {M : Mp} {X : Cx} {W : WX} {e a b : Expr} {es : List Expr} {f fa fb : Env → DS → R D} {g : Env → DS → R (List D)} {pos : Pos}
theorem da_nil : DA M X W [] nilA := ⟨_, pa_nil, fun A σ H G hs own η s Q I r => r G hs H (Stp.refl _ _ _ _) I.sim _ (repL_nil.mpr rfl)⟩
theorem da_cons (ha : DE M X W e f) (hr : DA M X W es g) (hs : starEach (e :: es) X.env = (false, eval e X.env) :: starEach es X.env := by rfl) : DA M X W (e :: es) (consA f g) := by
  obtain ⟨t, p, h⟩ := ha.ex
  obtain ⟨u, q, k⟩ := hr.ex
  refine ⟨_, pa_cons p q hs, fun A σ H G hs own η s Q I hp => ?_⟩
  refine h A σ H G hs own η s _ I (hp.bind.mono fun x G1 hs1 s1 H1 S1 J1 h1 v hv => ?_)
  refine k A σ H1 G1 hs1 own η s1 _ (I.step S1 J1) (h1.bind.mono fun xs G2 hs2 s2 H2 S2 J2 h2 vs hvs => ?_)
  exact h2 G2 hs2 H2 (Stp.refl _ _ _ _) J2 _ (repL_cons.mpr ⟨v, vs, rfl, hv.mono S2.gg S2.hp, hvs⟩)
theorem dab_nil : DAB M X W [] nilA := ⟨_, pa_nil, fun A σ H G hs own η s Q I r => r G hs H (Stp.refl _ _ _ _) I.sim _ Paired.nil⟩
theorem BVL.step {K : PySem.W.Frag} {G G' H H' : Hp} {hs hs' : List Addr} {ds : List D} {vs : List V} (S : Stp M G hs H G' hs' H') (h : BVL K M G hs H ds vs) : BVL K M G' hs' H' ds vs := Paired.mapP h fun _ _ z => z.step S
theorem dab_cons (ha : DB M X W e f) (hr : DAB M X W es g) (hs : starEach (e :: es) X.env = (false, eval e X.env) :: starEach es X.env := by rfl) : DAB M X W (e :: es) (consA f g) := by
  obtain ⟨t, p, h⟩ := ha.ex
  obtain ⟨u, q, k⟩ := hr.ex
  refine ⟨_, pa_cons p q hs, fun A σ H G hs own η s Q I hp => ?_⟩
  refine h A σ H G hs own η s _ I (hp.bind.mono fun x G1 hs1 s1 H1 S1 J1 h1 v hv => ?_)
  refine k A σ H1 G1 hs1 own η s1 _ (I.step S1 J1) (h1.bind.mono fun xs G2 hs2 s2 H2 S2 J2 h2 vs hvs => ?_)
  exact h2 G2 hs2 H2 (Stp.refl _ _ _ _) J2 _ (Paired.cons (hv.step S2) hvs)
def tupD (g : Env → DS → R (List D)) : Env → DS → R D := fun η s => (g η s).bind fun ds s1 => if ds.length ≤ 16777216 then .ok (.tup ds) s1 else .bad
def lstD (g : Env → DS → R (List D)) : Env → DS → R D := fun η s => (g η s).bind fun ds s1 => if ds.length ≤ 16777216 then .ok (.lst ds) s1 else .bad
theorem de_tup {x1} (h : DA M X W es g) : DE M X W (.Tuple es x1 pos) (tupD g) := by
  obtain ⟨t, p, h⟩ := h.ex
  refine ⟨_, pe_tup p, fun A σ H G hs own η s Q I hp => ?_⟩
  refine h A σ H G hs own η s _ I (hp.bind.mono fun ds G1 hs1 s1 H1 S1 J1 h1 vs hvs => ?_)
  split at h1
  · rename_i hl
    refine ⟨by rw [line_, ← hvs.length]; exact hl, fun p hp => ?_⟩
    exact h1 _ _ _ (J1.laid hp).1 (J1.laid hp).2 _ (rep_newT (J1.free hp).1 hvs)
  · exact h1.elim
theorem de_lst (h : DA M X W es g) : DE M X W (.List es pos) (lstD g) := by
  obtain ⟨t, p, h⟩ := h.ex
  refine ⟨_, pe_lst p, fun A σ H G hs own η s Q I hp => ?_⟩
  refine h A σ H G hs own η s _ I (hp.bind.mono fun ds G1 hs1 s1 H1 S1 J1 h1 vs hvs => ?_)
  split at h1
  · rename_i hl
    refine ⟨by rw [line_, ← hvs.length]; exact hl, fun p hp => ?_⟩
    exact h1 _ _ _ (J1.laid hp).1 (J1.laid hp).2 _ (rep_newL (J1.free hp).1 hvs)
  · exact h1.elim
def opIx : D → D → Option D
  | .lst ds, .int i => atI ds i
  | .tup ds, .int i => atI ds i
  | _, _ => none
theorem RepL.at {K : PySem.W.Frag} {G : Hp} {hs : List Addr} {ds : List D} {vs : List V} {i : Int} {d : D} (r : RepL K M G hs ds vs) (e : atI ds i = some d) : ∃ v, atI vs i = some v ∧ Rep K M G hs d v := by
  unfold atI at e ⊢
  rw [← r.length]
  cases q : ixN ds.length i with
  | none => rw [q] at e; cases e
  | some j =>
    rw [q] at e
    exact r.get (i := j) e
theorem de_ix (ha : DB M X W a fa) (hb : DB M X W b fb) (hs : PlainIx b := by exact fun _ _ => rfl) : DE M X W (.Subscript a b pos) (bopD opIx fa fb) := by
  obtain ⟨ta, pa, ha⟩ := ha.ex
  obtain ⟨tb, pb, hb⟩ := hb.ex
  refine ⟨_, pe_ix (ix_list.or ix_tup) pa pb hs, fun A σ H G hs own η s Q I hp => bin_run (op := getItem) ?_ ha hb I hp⟩
  intro G hs s H x y z v u Q J hx hy e k
  unfold opIx at e
  split at e
  · obtain ⟨a, vs, rfl, h1, r⟩ := hx.lst J
    obtain ⟨w, h2, h3⟩ := r.at e
    exact .inl ⟨a, vs, _, w, rfl, hy.int, SqL.of h1, h2, k G H (Stp.refl _ _ _ _) J w h3⟩
  · obtain ⟨a, vs, rfl, h1, r⟩ := hx.tup J
    obtain ⟨w, h2, h3⟩ := r.at e
    exact .inr ⟨a, vs, _, w, rfl, hy.int, h1, h2, k G H (Stp.refl _ _ _ _) J w h3⟩
  · cases e
/-- the part of a list -/
def cutD (ds : List D) (lo hi : Option Int) : List D := (ds.drop (HT.sIx ds.length 0 lo)).take (HT.sIx ds.length ds.length hi - HT.sIx ds.length 0 lo)
theorem RepL.cut {K : PySem.W.Frag} {G : Hp} {hs : List Addr} {ds : List D} {vs : List V} (r : RepL K M G hs ds vs) (lo hi : Option Int) : RepL K M G hs (cutD ds lo hi) (cutV vs lo hi) := by
  unfold cutD cutV
  rw [← r.length]
  exact (r.drop _).take _
def opCut : D → Option Int → Option Int → Option D
  | .lst ds, lo, hi => some (.lst (cutD ds lo hi))
  | .tup ds, lo, hi => some (.tup (cutD ds lo hi))
  | .scr ns, lo, hi => some (.lst (cutD (ns.map .int) lo hi))
  | _, _, _ => none
def asI : D → Option Int
  | .int i => some i
  | _ => none
theorem asI_some {d : D} {i : Int} (h : asI d = some i) : d = .int i := by
  cases d <;> simp_all [asI]
def partN : Env → DS → R (Option Int) := fun _ s => .ok none s
def partS (f : Env → DS → R D) : Env → DS → R (Option Int) := fun η s => (f η s).bind fun d s1 => (R.ofO (asI d) s1).bind fun i s2 => .ok (some i) s2
structure DO (M : Mp) (X : Cx) (W : WX) (e : Option Expr) (f : Env → DS → R (Option Int)) : Prop where
  ex : ∃ t, PO X e t ∧ ∀ (A : Anc) (σ : L2.St) (H G : Hp) (hs : List Addr) (own : Nat → Addr) (η : Env) (s : DS) (Q : Option Int → Hp → Prop), Sm X.K M A σ H G hs own η s →
    RPost X.K M σ W G hs H (f η s) (fun d _ _ _ H' => Q d H') → t σ H Q
theorem do_none : DO M X W none partN := ⟨_, po_none, fun A σ H G hs own η s Q I r => r G hs H (Stp.refl _ _ _ _) I.sim⟩
theorem do_some (h : DE M X W e f) : DO M X W (some e) (partS f) := by
  obtain ⟨t, p, h⟩ := h.ex
  refine ⟨_, po_some p, fun A σ H G hs own η s Q I hp => ?_⟩
  refine h A σ H G hs own η s _ I (hp.bind.mono fun d G1 hs1 s1 H1 S1 J1 h1 v hv => ?_)
  obtain ⟨i, e, k⟩ := h1.bind.ofO
  rw [asI_some e, rep_int] at hv
  exact ⟨i, hv, k G1 hs1 H1 (Stp.refl _ _ _ _) J1 G1 hs1 H1 (Stp.refl _ _ _ _) J1⟩
def sliceD (fa : Env → DS → R D) (fl fh : Env → DS → R (Option Int)) : Env → DS → R D := fun η s => (fa η s).bind fun x s1 => (fl η s1).bind fun l s2 => (fh η s2).bind fun u s3 => R.ofO (opCut (deref s3 x) l u) s3
theorem de_slice {lo hi : Option Expr} {fl fh : Env → DS → R (Option Int)} {p2 : Pos} (ha : DB M X W a fa) (hl : DO M X W lo fl) (hh : DO M X W hi fh) : DE M X W (.Subscript a (.Slice lo hi none p2) pos) (sliceD fa fl fh) := by
  obtain ⟨ta, pa, ha⟩ := ha.ex
  obtain ⟨tl, pl, hl⟩ := hl.ex
  obtain ⟨th, ph, hh⟩ := hh.ex
  refine ⟨_, pe_slice (sl_list.or sl_tupA) pa pl ph, fun A σ H G hs own η s Q I hp => ?_⟩
  refine ha A σ H G hs own η s _ I (hp.bind.mono fun x G1 hs1 s1 H1 S1 J1 h1 v hv => ?_)
  refine hl A σ H1 G1 hs1 own η s1 _ (I.step S1 J1) (h1.bind.mono fun l G2 hs2 s2 H2 S2 J2 h2 => ?_)
  refine hh A σ H2 G2 hs2 own η s2 _ ((I.step S1 J1).step S2 J2) (h2.bind.mono fun u G3 hs3 s3 H3 S3 J3 h3 => ?_)
  obtain ⟨z, e, k⟩ := h3.ofO
  have hx := ((hv.step S2).step S3).read J3
  generalize deref s3 x = d at hx e
  unfold opCut at e
  split at e
  · cases e
    obtain ⟨a, vs, rfl, h1, r⟩ := hx.lst J3
    exact .inl ⟨a, vs, rfl, SqL.of h1, fun p hp => k _ _ _ (J3.laid hp).1 (J3.laid hp).2 _ (rep_newL (J3.free hp).1 (r.cut l u))⟩
  · cases e
    rename_i ds
    have hx' : Rep X.K M G3 hs3 (.tup ds) v := by
      rcases hx with hx | ⟨_, _, hx⟩
      · exact hx
      · exact hx.elim
    obtain ⟨a, vs, rfl, h1, r⟩ := hx.tup J3
    refine .inr ⟨a, vs, rfl, h1, fun z => ?_, fun _ p hp => k _ _ _ (J3.laid hp).1 (J3.laid hp).2 _ (rep_newT (J3.free hp).1 (r.cut l u))⟩
    refine k _ _ _ (Stp.refl _ _ _ _) J3 _ ?_
    have ec : cutD ds l u = ds := by
      unfold cutD
      rw [← r.length] at z
      rw [z.1, z.2, List.drop_zero, Nat.sub_zero, List.take_length]
    rw [ec]
    exact hx'
  · cases e
    rename_i ns
    have hx' : Rep X.K M G3 hs3 (.scr ns) v := by
      rcases hx with hx | ⟨_, _, hx⟩
      · exact hx
      · exact hx.elim
    obtain ⟨a, rfl, h1⟩ := rep_scr.mp hx'
    exact .inl ⟨a, _, rfl, J3.sub.seq h1, fun p hp => k _ _ _ (J3.laid hp).1 (J3.laid hp).2 _ (rep_newL (J3.free hp).1 (RepL.cut (RepL.ints.mpr rfl) l u))⟩
  · cases e
/-- what the written part says of the class c -/
structure ClsOk (K : PySem.W.Frag) (M : Mp) (c : Nat) : Prop where
  cl : Cls K (M.cls c)
  no : ∀ f ∈ M.flds c, NoAttr K (M.cls c) f
  nd : (M.flds c).Nodup
  few : (M.flds c).length < 1000
def fldO (c i : Nat) : D → Option D
  | .obj c' ds => if c' = c then ds[i]? else none
  | _ => none
def fldD (c i : Nat) (fa : Env → DS → R D) : Env → DS → R D := uopD (fldO c i) fa
theorem lookup_at : ∀ {fs : List (Str × V)} {i : Nat} {f : Str} {v : V}, (fs.map (·.1)).Nodup → (fs.map (·.1))[i]? = some f → (fs.map (·.2))[i]? = some v → fs.lookup f = some v
  | [], _, _, _, _, h, _ => by simp at h
  | (g, w) :: fs, 0, f, v, _, h1, h2 => by
    simp at h1 h2
    subst h1 h2
    simp [List.lookup]
  | (g, w) :: fs, i + 1, f, v, nd, h1, h2 => by
    rw [List.map_cons, List.nodup_cons] at nd
    have h3 : (fs.map (·.1))[i]? = some f := by simpa using h1
    have hne : ¬ f = g := fun e => nd.1 (by rw [← e]; exact List.mem_of_getElem? h3)
    have hne' : (f == g) = false := by simpa using hne
    rw [List.lookup_cons, hne']
    exact lookup_at nd.2 h3 (by simpa using h2)
theorem RV.fld {K : PySem.W.Frag} {G H : Hp} {hs : List Addr} {s : DS} {c i : Nat} {d z : D} {v : V} {f : Str} (C : ClsOk K M c) (J : Sim K M G hs s H) (hf : (M.flds c)[i]? = some f) (h : RV K M G hs H d v) (e : fldO c i d = some z) :
    ∃ a dx fs w, v = .ref a ∧ H a = some (.ins (M.cls c) dx fs) ∧ fs.lookup f = some w ∧ Rep K M G hs z w := by
  unfold fldO at e
  split at e
  · rename_i c' ds
    split at e
    · rename_i hc
      subst hc
      rcases h with h | ⟨a, rfl, dx, fs, h1, h2, h3⟩
      · obtain ⟨a, dx, fs, rfl, h1, h2, h3⟩ := rep_obj.mp h
        obtain ⟨w, hw, rw'⟩ := h3.get e
        exact ⟨a, dx, fs, w, rfl, J.sub _ _ h1, lookup_at (by rw [h2]; exact C.nd) (by rw [h2]; exact hf) hw, rw'⟩
      · obtain ⟨w, hw, rw'⟩ := h3.get e
        have hi : i < ds.length := (List.getElem?_eq_some_iff.mp e).1
        exact ⟨a, dx, fs, w, rfl, h1, lookup_at (by rw [h2]; exact C.nd.sublist (List.take_sublist _ _)) (by rw [h2, List.getElem?_take_of_lt hi]; exact hf) hw, rw'⟩
    · cases e
  · cases e
theorem de_fld {c i : Nat} {f : Str} (C : ClsOk X.K M c) (ha : DB M X W a fa) (hf : (M.flds c)[i]? = some f := by rfl) (hb : attributeBase a f X.env (eval a X.env) = eval a X.env := by rfl) : DE M X W (.Attribute a f pos) (fldD c i fa) := by
  obtain ⟨ta, pa, ha⟩ := ha.ex
  refine ⟨_, pe_fld pa hb, fun A σ H G hs own η s Q I hp => ?_⟩
  refine ha A σ H G hs own η s _ I (hp.bind.mono fun x G1 hs1 s1 H1 S1 J1 h1 v hv => ?_)
  obtain ⟨z, e, k⟩ := h1.ofO
  obtain ⟨a, dx, fs, w, rfl, h2, h3, h4⟩ := (hv.read J1).fld C J1 hf e
  exact ⟨a, _, dx, fs, w, rfl, h2, C.cl, C.no f (List.mem_of_getElem? hf), h3, k G1 hs1 H1 (Stp.refl _ _ _ _) J1 _ h4⟩
end
end DL
set_option Elab.async false
set_option linter.all false
set_option maxRecDepth 100000
set_option maxHeartbeats 2000000
namespace DL
open PySem PySem.Spec PyProof.Rows L2
def RVL (K : PySem.W.Frag) (M : Mp) (G : Hp) (hs : List Addr) (H : Hp) : List D → List V → Prop := Paired (RV K M G hs H)
section
variable (M : Mp) (X : Cx)
abbrev CEx (r : List V → Hp → VK → Prop) (o : List D → Option D) : Prop := ∀ (G : Hp) (hs : List Addr) (s : DS) (H : Hp) (ds : List D) (z : D) (vs : List V) (Q : VK), Sim X.K M G hs s H → RVL X.K M G hs H ds vs → o ds = some z →
    (∀ G' H', Stp M G hs H G' hs H' → Sim X.K M G' hs s H' → ∀ w, Rep X.K M G' hs z w → Q w H') → r vs H Q
structure CallD (f : Value) (o : List D → Option D) : Prop where
  ex : ∃ r, CallR X f r ∧ CEx M X r o
end
def bltD (o : List D → Option D) (g : Env → DS → R (List D)) : Env → DS → R D := fun η s => (g η s).bind fun ds s1 => R.ofO (o (ds.map (deref s1))) s1
section
variable {M : Mp} {X : Cx} {W : WX} {e : Expr} {es : List Expr} {g : Env → DS → R (List D)} {pos p : Pos} {x : Str} {id T : String} {o : List D → Option D}
theorem BVL.read {K : PySem.W.Frag} {G H : Hp} {hs : List Addr} {s : DS} {ds : List D} {vs : List V} (J : Sim K M G hs s H) (h : BVL K M G hs H ds vs) : RVL K M G hs H (ds.map (deref s)) vs := by
  unfold BVL at h
  unfold RVL
  induction h with
  | nil => exact Paired.nil
  | cons h t ih => exact Paired.cons (h.read J) ih
theorem blt_run {r : List V → Hp → VK → Prop} {t : TA} {A : Anc} {σ : L2.St} {H G : Hp} {hs : List Addr} {own : Nat → Addr} {η : Env} {s : DS} {Q : VK} (hr : CEx M X r o) (ha : ABEx M X W t g) (I : Sm X.K M A σ H G hs own η s)
    (hp : RPost X.K M σ W G hs H (bltD o g η s) (fun d G' hs' _ H' => ∀ v, Rep X.K M G' hs' d v → Q v H')) : tCB r t σ H Q := by
  refine ha A σ H G hs own η s _ I (hp.bind.mono fun ds G1 hs1 s1 H1 S1 J1 h1 vs hvs => ?_)
  obtain ⟨z, e, k⟩ := h1.ofO
  exact hr G1 hs1 s1 H1 _ z vs Q J1 (hvs.read J1) e fun G3 H3 S3 J3 w hw => k G3 hs1 H3 S3 J3 w hw
theorem de_blt (ho : CallD M X (.builtin id) o) (hm : X.mg x = none) (hv : bootBuiltins x = some (.builtin id)) (ha : DAB M X W (e :: es) g) (hg : Gl X x := by rfl) (hn : x ≠ "__name__" := by decide) (hdb : (x == ("__debug__" : Str)) = false := by decide)
    (he : starEach (e :: es) X.env = (false, eval e X.env) :: starEach es X.env := by rfl) (hpl : (backTo pos (starEach es X.env)).any (·.1) = false := by rfl) : DE M X W (.Call (.Name x p) (e :: es) [] pos) (bltD o g) := by
  obtain ⟨r, hc, hr⟩ := ho.ex
  obtain ⟨t, pa, ha⟩ := ha.ex
  exact ⟨_, pe_callB hc hg hm hv pa hn hdb he hpl, fun A σ H G hs own η s Q I hp => blt_run hr ha I hp⟩
theorem de_bty (ho : CallD M X (.type T) o) (hm : X.mg x = none) (hv : bootBuiltins x = some (.type T)) (ha : DAB M X W (e :: es) g) (hg : Gl X x := by rfl) (hn : x ≠ "__name__" := by decide) (hdb : (x == ("__debug__" : Str)) = false := by decide)
    (he : starEach (e :: es) X.env = (false, eval e X.env) :: starEach es X.env := by rfl) (hpl : (backTo pos (starEach es X.env)).any (·.1) = false := by rfl) : DE M X W (.Call (.Name x p) (e :: es) [] pos) (bltD o g) := by
  obtain ⟨r, hc, hr⟩ := ho.ex
  obtain ⟨t, pa, ha⟩ := ha.ex
  exact ⟨_, pe_callTy hc hg hm hv pa hn hdb he hpl, fun A σ H G hs own η s Q I hp => blt_run hr ha I hp⟩
theorem RVL.one {K : PySem.W.Frag} {G H : Hp} {hs : List Addr} {d : D} {vs : List V} (h : RVL K M G hs H [d] vs) : ∃ v, vs = [v] ∧ RV K M G hs H d v := by
  cases h with
  | cons h t => cases t; exact ⟨_, rfl, h⟩
def absO : List D → Option D
  | [.int i] => some (.int (if i < 0 then -i else i))
  | _ => none
theorem cd_abs : CallD M X (.builtin "abs") absO := by
  refine ⟨_, call_abs, fun G hs s H ds z vs Q J hv e k => ?_⟩
  unfold absO at e
  split at e
  · cases e
    obtain ⟨v, rfl, h⟩ := hv.one
    exact ⟨_, by rw [h.int], k G H (Stp.refl _ _ _ _) J _ (rep_int.mpr rfl)⟩
  · cases e
def intO : List D → Option D
  | [.int i] => some (.int i)
  | [.bl b] => some (.int (if b = true then 1 else 0))
  | _ => none
theorem cd_int : CallD M X (.type "int") intO := by
  refine ⟨_, call_int1, fun G hs s H ds z vs Q J hv e k => ?_⟩
  unfold intO at e
  split at e
  · cases e
    obtain ⟨v, rfl, h⟩ := hv.one
    exact .inl ⟨_, by rw [h.int], k G H (Stp.refl _ _ _ _) J _ (rep_int.mpr rfl)⟩
  · cases e
    obtain ⟨v, rfl, h⟩ := hv.one
    exact .inr ⟨_, by rw [h.bl], k G H (Stp.refl _ _ _ _) J _ (rep_int.mpr rfl)⟩
  · cases e
def min2O : List D → Option D
  | [.int i, .int j] => some (.int (if j < i then j else i))
  | _ => none
def max2O : List D → Option D
  | [.int i, .int j] => some (.int (if j > i then j else i))
  | _ => none
def lenO : List D → Option D
  | [.lst l] => some (.int (l.length : Nat))
  | [.tup l] => some (.int (l.length : Nat))
  | [.str z] => if z.length ≤ 16777216 then some (.int (z.length : Nat)) else none
  | _ => none
theorem cd_len : CallD M X (.builtin "len") lenO := by
  refine ⟨_, call_len, fun G hs s H ds z vs Q J hv e k => ?_⟩
  unfold lenO at e
  split at e
  · cases e
    obtain ⟨v, rfl, h⟩ := hv.one
    obtain ⟨a, ws, rfl, h1, r⟩ := h.lst J
    refine ⟨_, _, rfl, .inl ⟨ws, SqL.of h1, rfl⟩, ?_⟩
    rw [← r.length]
    exact k G H (Stp.refl _ _ _ _) J _ (rep_int.mpr rfl)
  · cases e
    obtain ⟨v, rfl, h⟩ := hv.one
    obtain ⟨a, ws, rfl, h1, r⟩ := h.tup J
    refine ⟨_, _, rfl, .inr ⟨ws, h1, rfl⟩, ?_⟩
    rw [← r.length]
    exact k G H (Stp.refl _ _ _ _) J _ (rep_int.mpr rfl)
  · split at e
    · rename_i z hl
      cases e
      obtain ⟨v, rfl, h⟩ := hv.one
      rw [h.str]
      exact ⟨_, _, rfl, ⟨by rw [line_]; exact hl, rfl⟩, k G H (Stp.refl _ _ _ _) J _ (rep_int.mpr rfl)⟩
    · cases e
  · cases e
def listO : List D → Option D
  | [.lst l] => some (.lst l)
  | [.tup l] => some (.lst l)
  | _ => none
def tupleO : List D → Option D
  | [.lst l] => some (.tup l)
  | [.tup l] => some (.tup l)
  | _ => none
theorem cd_tuple : CallD M X (.type "tuple") tupleO := by
  refine ⟨_, call_tuple_of, fun G hs s H ds z vs Q J hv e k => ?_⟩
  unfold tupleO at e
  split at e
  · cases e
    obtain ⟨v, rfl, h⟩ := hv.one
    obtain ⟨a, ws, rfl, h1, r⟩ := h.lst J
    exact ⟨_, _, rfl, .inl ⟨SqL.of h1, fun p hp => k _ _ (J.laid hp).1 (J.laid hp).2 _ (rep_newT (J.free hp).1 r)⟩⟩
  · cases e
    rename_i l
    obtain ⟨v, rfl, h⟩ := hv.one
    have h' : Rep X.K M G hs (.tup l) v := by
      rcases h with h | ⟨_, _, h⟩
      · exact h
      · exact h.elim
    obtain ⟨a, ws, rfl, h1, r⟩ := h.tup J
    exact ⟨_, _, rfl, .inr ⟨h1, k _ _ (Stp.refl _ _ _ _) J _ h'⟩⟩
  · cases e
/-- sum of ints -/
def intsOf : List D → Option (List Int)
  | [] => some []
  | .int i :: r => (intsOf r).map (i :: ·)
  | _ => none
theorem intsOf_some : ∀ {l : List D} {ns : List Int}, intsOf l = some ns → l = ns.map .int
  | [], ns, h => by simp [intsOf] at h; subst h; rfl
  | d :: l, ns, h => by
    cases d with
    | int i =>
      simp only [intsOf, Option.map_eq_some_iff] at h
      obtain ⟨r, h1, rfl⟩ := h
      rw [intsOf_some h1]
      rfl
    | _ => simp [intsOf] at h
theorem intsOf_map : ∀ (ns : List Int), intsOf (ns.map .int) = some ns
  | [] => rfl
  | n :: ns => by simp [intsOf, intsOf_map ns]
def sumO : List D → Option D
  | [.lst l] => (intsOf l).map fun ns => .int ns.sum
  | _ => none
theorem cd_sum (hc : X.calm = true) : CallD M X (.builtin "sum") sumO := by
  refine ⟨_, cr_sum hc, fun G hs s H ds z vs Q J hv e k => ?_⟩
  unfold sumO at e
  split at e
  · rename_i l
    rw [Option.map_eq_some_iff] at e
    obtain ⟨ns, e1, rfl⟩ := e
    obtain ⟨v, rfl, h⟩ := hv.one
    obtain ⟨a, ws, rfl, h1, r⟩ := h.lst J
    rw [intsOf_some e1, RepL.ints] at r
    subst r
    exact ⟨_, ns, rfl, SqL.of h1, k G H (Stp.refl _ _ _ _) J _ (rep_int.mpr rfl)⟩
  · cases e
/-- the least of alike data -/
def ltD (x y : D) : Bool := PySem.W.dataLt (toPD x) (toPD y)
def alikeD (x y : D) : Bool := PySem.W.alike (toPD x) (toPD y)
def likeAll (l : List D) : Bool := dOkL l && decide (dDepL l ≤ 60) && l.all (fun x => l.all fun y => alikeD x y) && l.all (fun x => match x with | .non => false | _ => true)
def minF (x : D) (xs : List D) : D := xs.foldl (fun a y => if ltD y a = true then y else a) x
def maxF (x : D) (xs : List D) : D := xs.foldl (fun a y => if ltD a y = true then y else a) x
theorem toPDL_map : ∀ (l : List D), toPDL l = l.map toPD
  | [] => by simp [toPDL]
  | d :: l => by simp [toPDL, toPDL_map l]
theorem dOkL_mem : ∀ {l : List D} {d : D}, dOkL l = true → d ∈ l → dOk d = true
  | e :: l, d, h, hm => by
    have h1 : dOk e = true ∧ dOkL l = true := by simpa [dOkL] using h
    rcases List.mem_cons.mp hm with rfl | hm
    · exact h1.1
    · exact dOkL_mem h1.2 hm
theorem likeAll_of {l : List D} (h : likeAll l = true) : dOkL l = true ∧ dDepL l ≤ 60 ∧ PySem.W.AlikeAll (l.map toPD) := by
  unfold likeAll at h
  simp only [Bool.and_eq_true, decide_eq_true_eq, List.all_eq_true] at h
  obtain ⟨⟨⟨h1, h2⟩, h3⟩, h4⟩ := h
  refine ⟨h1, h2, fun x hx y hy => ?_, fun x hx => ?_⟩
  · obtain ⟨d, hd, rfl⟩ := List.mem_map.mp hx
    obtain ⟨e, he, rfl⟩ := List.mem_map.mp hy
    exact h3 d hd e he
  · obtain ⟨d, hd, rfl⟩ := List.mem_map.mp hx
    have q := h4 d hd
    have o := dOkL_mem h1 hd
    cases d <;> simp_all [toPD, dOk]
def minO : List D → Option D
  | [.lst (d :: ds)] => if likeAll (d :: ds) = true then some (minF d ds) else none
  | _ => none
def maxO : List D → Option D
  | [.lst (d :: ds)] => if likeAll (d :: ds) = true then some (maxF d ds) else none
  | _ => none
end
end DL
set_option Elab.async false
set_option linter.all false
set_option maxRecDepth 100000
set_option maxHeartbeats 2000000
namespace DL
open PySem PySem.Spec PyProof.Rows L2
inductive F where
  | nx (η : Env) (s : DS) | rt (d : D) (s : DS) | bk (η : Env) (s : DS) | ct (η : Env) (s : DS) | ex (c : Nat) (p : List D) (η : Env) (s : DS) | bad
def R.toF {α : Type} (r : R α) (η : Env) (k : α → DS → F) : F := match r with
  | .ok a s => k a s
  | .ex c p s => .ex c p η s
  | .bad => .bad
def FPost (K : PySem.W.Frag) (M : Mp) (A : Anc) (W : WX) (E : Ends) : F → Prop
  | .nx η s => ∀ σ H G hs own, Sm K M A σ H G hs own η s → E.nx σ H
  | .rt d s => ∀ H G hs v, Stp M A.G A.hs A.H G hs H → Sim K M G hs s H → Rep K M G hs d v → E.rt v H
  | .bk η s => ∀ σ H G hs own, Sm K M A σ H G hs own η s → E.bk σ H
  | .ct η s => ∀ σ H G hs own, Sm K M A σ H G hs own η s → E.ct σ H
  | .ex c p η s => ∀ σ H G hs own cls dx, Sm K M A σ H G hs own η s → ExR K M G hs H c p cls dx → W cls dx σ H
  | .bad => False
section
variable (M : Mp) (X : Cx) (W : WX)
abbrev SEx (t : TS) (g : Env → DS → F) : Prop := ∀ (A : Anc) (σ : L2.St) (H G : Hp) (hs : List Addr) (own : Nat → Addr) (η : Env) (s : DS) (E : Ends), Sm X.K M A σ H G hs own η s → FPost X.K M A W E (g η s) → t E σ H
structure DSt (st : Stmt) (g : Env → DS → F) : Prop where
  ex : ∃ t, PS X st t ∧ SEx M X W t g
structure DSs (st : List Stmt) (g : Env → DS → F) : Prop where
  ex : ∃ t, PSs X st t ∧ SEx M X W t g
end
def nextB : Env → DS → F := fun η s => .nx η s
def seqB (f g : Env → DS → F) : Env → DS → F := fun η s => match f η s with
  | .nx η' s' => g η' s'
  | r => r
def ifB (c : Env → DS → R Bool) (f g : Env → DS → F) : Env → DS → F := fun η s => (c η s).toF η fun b s1 => if b = true then f η s1 else g η s1
def retB (f : Env → DS → R D) : Env → DS → F := fun η s => (f η s).toF η fun d s1 => .rt d s1
def retN : Env → DS → F := fun _ s => .rt .non s
def dropB (f : Env → DS → R D) : Env → DS → F := fun η s => (f η s).toF η fun _ s1 => .nx η s1
def setF (η : Env) (i : Nat) (d : D) (s : DS) : F := if i < η.length then .nx (η.set i (.v d)) s else .bad
def setOF (η : Env) (i : Nat) (d : D) (s : DS) : F := if 0 < i ∧ i < η.length then .nx (η.set i (.o d)) s else .bad
def setB (i : Nat) (f : Env → DS → R D) : Env → DS → F := fun η s => (f η s).toF η fun d s1 => setF η i d s1
def setOB (i : Nat) (f : Env → DS → R D) : Env → DS → F := fun η s => (f η s).toF η fun d s1 => setOF η i d s1
def breakB : Env → DS → F := fun η s => .bk η s
def contB : Env → DS → F := fun η s => .ct η s
section
variable {M : Mp} {X : Cx} {W : WX} {st : Stmt} {rest : List Stmt} {f g : Env → DS → F} {e : Expr} {fe : Env → DS → R D} {pos : Pos}
theorem FPost.lift {K : PySem.W.Frag} {A : Anc} {σ : L2.St} {H G : Hp} {hs : List Addr} {own : Nat → Addr} {η : Env} {s : DS} {E : Ends} {α : Type} {r : R α} {k : α → DS → F} (I : Sm K M A σ H G hs own η s) (h : FPost K M A W E (r.toF η k)) :
    RPost K M σ W G hs H r (fun a _ _ s' _ => FPost K M A W E (k a s')) := by
  cases r with
  | ok a s' => exact fun G' hs' H' _ _ => h
  | ex c p s' => exact fun G' hs' H' cls dx S J hx => h σ H' G' hs' own cls dx (I.step S J) hx
  | bad => exact h
theorem dss_nil : DSs M X W [] nextB := ⟨_, pss_nil, fun A σ H G hs own η s E I h => h σ H G hs own I⟩
theorem FPost.seq {K : PySem.W.Frag} {A : Anc} {E : Ends} {u : TS} {η : Env} {s : DS} (k : ∀ (A : Anc) (σ : L2.St) (H G : Hp) (hs : List Addr) (own : Nat → Addr) (η : Env) (s : DS) (E : Ends), Sm K M A σ H G hs own η s → FPost K M A W E (g η s) → u E σ H)
    (h : FPost K M A W E (seqB f g η s)) : FPost K M A W { E with nx := u E } (f η s) := by
  unfold seqB at h
  cases e : f η s with
  | nx η' s' =>
    rw [e] at h
    exact fun σ H G hs own I => k A σ H G hs own η' s' E I h
  | rt d s' => rw [e] at h; exact h
  | bk η' s' => rw [e] at h; exact h
  | ct η' s' => rw [e] at h; exact h
  | ex c p η' s' => rw [e] at h; exact h
  | bad => rw [e] at h; exact h
theorem dss_cons (h1 : DSt M X W st f) (h2 : DSs M X W rest g) : DSs M X W (st :: rest) (seqB f g) := by
  obtain ⟨t, p, h⟩ := h1.ex
  obtain ⟨u, q, k⟩ := h2.ex
  exact ⟨_, pss_cons p q, fun A σ H G hs own η s E I hp => h A σ H G hs own η s _ I (FPost.seq k hp)⟩
theorem dss_one (h1 : DSt M X W st f) : DSs M X W [st] f := by
  obtain ⟨t, p, h⟩ := h1.ex
  exact ⟨_, pss_one p, h⟩
theorem ds_if {c : Expr} {a b : List Stmt} {tc : Env → DS → R Bool} (hc : DT M X W c tc) (ha : DSs M X W a f) (hb : DSs M X W b g) : DSt M X W (.If c a b pos) (ifB tc f g) := by
  obtain ⟨t, p, h⟩ := hc.ex
  obtain ⟨ta, pa, ha⟩ := ha.ex
  obtain ⟨tb, pb, hb⟩ := hb.ex
  refine ⟨_, ps_if p pa pb, fun A σ H G hs own η s E I hp => ?_⟩
  refine h A σ H G hs own η s _ I ((hp.lift I).mono fun b G1 hs1 s1 H1 S1 J1 h1 => ?_)
  cases b with
  | true =>
    rw [if_pos rfl] at h1 ⊢
    exact ha A σ H1 G1 hs1 own η s1 E (I.step S1 J1) h1
  | false =>
    rw [if_neg Bool.false_ne_true] at h1 ⊢
    exact hb A σ H1 G1 hs1 own η s1 E (I.step S1 J1) h1
theorem ds_expr (he : DE M X W e fe) (hs : swapsWith e none pos.line X.env = pure false := by rfl) : DSt M X W (.Expr e pos) (dropB fe) := by
  obtain ⟨t, p, h⟩ := he.ex
  refine ⟨_, ps_expr p hs, fun A σ H G hs own η s E I hp => ?_⟩
  exact h A σ H G hs own η s _ I ((hp.lift I).mono fun d G1 hs1 s1 H1 S1 J1 h1 v _ => h1 σ H1 G1 hs1 own (I.step S1 J1))
/-- return, where no name that owns is given out -/
theorem ds_ret (he : DE M X W e fe) : DSt M X W (.Return (some e) pos) (retB fe) := by
  obtain ⟨t, p, h⟩ := he.ex
  refine ⟨_, ps_ret p, fun A σ H G hs own η s E I hp => ?_⟩
  exact h A σ H G hs own η s _ I ((hp.lift I).mono fun d G1 hs1 s1 H1 S1 J1 h1 v hv => h1 H1 G1 hs1 v (I.stp.trans S1) J1 hv)
/-- no dict -/
def noDc : D → Prop
  | .dic _ => False
  | .dit _ => False
  | _ => True
theorem at_rep {K : PySem.W.Frag} {G H : Hp} {hs : List Addr} {a : Addr} (g : G a = none) : ∀ {d : D}, At K M G hs H a d → (∀ c ds, d = .obj c ds → ds.length = (M.flds c).length) → noDc d → ∃ o, H a = some o ∧ Rep K M (upd G a o) hs d (.ref a)
  | .lst ds, ⟨vs, h1, h2⟩, _, _ => ⟨_, h1, rep_lst.mpr ⟨a, vs, rfl, upd_same, h2.mono (same_upd g) (Pre.refl _)⟩⟩
  | .dic kvs, _, _, hd => hd.elim
  | .dit kvs, _, _, hd => hd.elim
  | .obj c ds, ⟨dx, fs, h1, h2, h3⟩, hl, _ => ⟨_, h1, rep_obj.mpr ⟨a, dx, fs, rfl, upd_same, by rw [h2, hl c ds rfl, List.take_length], h3.mono (same_upd g) (Pre.refl _)⟩⟩
/-- a step, and an object that is new since then is from now on still -/
theorem Stp.still {G G' H H' : Hp} {hs hs' : List Addr} {p : Addr} {o : HO} (S : Stp M G hs H G' hs' H') (h0 : Nt H p) (g : G' p = none) : Stp M G hs H (upd G' p o) hs' H' :=
  ⟨S.gg.trans (same_upd g), fun a u e => by
    by_cases z : a = p
    · subst z; exact .inr (.inl h0)
    · rw [upd_ne z] at e; exact S.fr a u e, S.hp, S.hf, S.kp, S.dm⟩
def notObj : D → Bool
  | .obj _ _ => false
  | .dic _ => false
  | .dit _ => false
  | _ => true
theorem notDic_of {d : D} (h : notObj d = true) : noDc d := by
  cases d <;> first | trivial | cases h
theorem notObj_of {d : D} (h : notObj d = true) : ∀ c ds, d = .obj c ds → ds.length = (M.flds c).length := by
  intro c ds e
  subst e
  cases h
/-- a name that owns is read as a thing that stays: it owns no more -/
def frzE (η : Env) (i : Nat) : Env := match η[i]? with
  | some (.o d) => if notObj d = true then η.set i (.v d) else η
  | _ => η
theorem set_get {η : Env} {i j : Nat} {x y : Sl} (h : (η.set i x)[j]? = some y) : (j = i ∧ y = x) ∨ (j ≠ i ∧ η[j]? = some y) := by
  by_cases hji : j = i
  · subst hji
    by_cases hl : j < η.length
    · rw [List.getElem?_set_self hl] at h
      cases h
      exact .inl ⟨rfl, rfl⟩
    · rw [List.getElem?_eq_none (by rw [List.length_set]; omega)] at h
      cases h
  · rw [List.getElem?_set_ne (Ne.symm hji)] at h
    exact .inr ⟨hji, h⟩
theorem Sm.frz {K : PySem.W.Frag} {A : Anc} {σ : L2.St} {H G : Hp} {hs : List Addr} {own : Nat → Addr} {η : Env} {s : DS} (I : Sm K M A σ H G hs own η s) (i : Nat) : ∃ G', Sm K M A σ H G' hs own (frzE η i) s := by
  unfold frzE
  split
  · rename_i d e
    split
    · rename_i hd
      obtain ⟨h1, h2, h3, h4, h5, h6⟩ := I.ow i d e
      obtain ⟨o, ho, hr⟩ := at_rep h3 h2 (notObj_of hd) (notDic_of hd)
      refine ⟨upd G (own i) o, I.sim.still ho h4 h5 h3 (at_no h2 ho), I.stp.still h6 h3, fun j d' ej => ?_, fun j d' ej => ?_, fun j k d1 d2 e1 e2 => ?_, by rw [List.length_set]; exact I.el, fun x d2 ex e2 => ?_⟩
      · rcases set_get ej with ⟨rfl, q⟩ | ⟨_, q⟩
        · cases q
          exact ⟨_, h1, hr⟩
        · obtain ⟨v, k1, k2⟩ := I.pl j d' q
          exact ⟨v, k1, k2.mono (same_upd h3) (Pre.refl _)⟩
      · rcases set_get ej with ⟨rfl, q⟩ | ⟨hji, q⟩
        · cases q
        · obtain ⟨k1, k2, k3, k4, k5, k6⟩ := I.ow j d' q
          refine ⟨k1, k2.mono (same_upd h3) (Pre.refl _) rfl, ?_, k4, k5, k6⟩
          rw [upd_ne (fun z => hji (I.inj j i d' d q e z))]
          exact k3
      · rcases set_get e1 with ⟨_, q⟩ | ⟨_, q⟩
        · cases q
        · rcases set_get e2 with ⟨_, q2⟩ | ⟨_, q2⟩
          · cases q2
          · exact I.inj j k d1 d2 q q2
      · rcases set_get e2 with ⟨_, q⟩ | ⟨_, q⟩
        · cases q
        · exact I.sf x d2 ex q
    · exact ⟨G, I⟩
  · exact ⟨G, I⟩
def frzL (is : List Nat) (η : Env) : Env := is.foldl frzE η
def frzB (is : List Nat) (g : Env → DS → F) : Env → DS → F := fun η s => g (frzL is η) s
theorem Sm.set {K : PySem.W.Frag} {A : Anc} {σ : L2.St} {H G : Hp} {hs : List Addr} {own : Nat → Addr} {η : Env} {s : DS} {i : Nat} {d : D} {v : V} (I : Sm K M A σ H G hs own η s) (hl : i < σ.length) (hr : Rep K M G hs d v) :
    Sm K M A (σ.set i (some v)) H G hs own (η.set i (.v d)) s where
  sim := I.sim
  stp := I.stp
  pl := fun j e ej => by
    rcases set_get ej with ⟨rfl, q⟩ | ⟨hji, q⟩
    · cases q
      exact ⟨v, List.getElem?_set_self hl, hr⟩
    · rw [List.getElem?_set_ne (Ne.symm hji)]
      exact I.pl j e q
  ow := fun j e ej => by
    rcases set_get ej with ⟨rfl, q⟩ | ⟨hji, q⟩
    · cases q
    · rw [List.getElem?_set_ne (Ne.symm hji)]
      exact I.ow j e q
  inj := fun j k d1 d2 e1 e2 => by
    rcases set_get e1 with ⟨_, q⟩ | ⟨_, q⟩
    · cases q
    · rcases set_get e2 with ⟨_, q2⟩ | ⟨_, q2⟩
      · cases q2
      · exact I.inj j k d1 d2 q q2
  el := by rw [List.length_set, List.length_set]; exact I.el
  sf := fun x d2 ex e2 => by
    rcases set_get e2 with ⟨_, q⟩ | ⟨_, q⟩
    · cases q
    · exact I.sf x d2 ex q
/-- a thing that no one else has -/
structure Fr1 (K : PySem.W.Frag) (M : Mp) (G : Hp) (hs : List Addr) (H : Hp) (d : D) (p : Addr) : Prop where
  at_ : At K M G hs H p d
  g : G p = none
  h : p ∉ hs
  t : ¬ inTab M p
theorem Sm.setO {K : PySem.W.Frag} {A : Anc} {σ : L2.St} {H G : Hp} {hs : List Addr} {own : Nat → Addr} {η : Env} {s : DS} {i : Nat} {d : D} {p : Addr} (I : Sm K M A σ H G hs own η s) (hi0 : 0 < i) (hl : i < σ.length) (hr : Fr1 K M G hs H d p) (ha : Nt A.H p)
    (ne : ∀ j e, j ≠ i → η[j]? = some (.o e) → own j ≠ p) :
    Sm K M A (σ.set i (some (.ref p))) H G hs (fun j => if j = i then p else own j) (η.set i (.o d)) s where
  sim := I.sim
  stp := I.stp
  pl := fun j e ej => by
    rcases set_get ej with ⟨rfl, q⟩ | ⟨hji, q⟩
    · cases q
    · rw [List.getElem?_set_ne (Ne.symm hji)]
      exact I.pl j e q
  ow := fun j e ej => by
    rcases set_get ej with ⟨rfl, q⟩ | ⟨hji, q⟩
    · cases q
      rw [List.getElem?_set_self hl, if_pos rfl]
      exact ⟨rfl, hr.at_, hr.g, hr.h, hr.t, ha⟩
    · rw [List.getElem?_set_ne (Ne.symm hji), if_neg hji]
      exact I.ow j e q
  inj := fun j k d1 d2 e1 e2 => by
    rcases set_get e1 with ⟨h1, q⟩ | ⟨h1, q⟩
    · rcases set_get e2 with ⟨h2, q2⟩ | ⟨h2, q2⟩
      · rw [h1, h2]
        exact fun _ => rfl
      · rw [if_pos h1, if_neg h2]
        exact fun z => absurd z.symm (ne k d2 h2 q2)
    · rcases set_get e2 with ⟨h2, q2⟩ | ⟨h2, q2⟩
      · rw [if_neg h1, if_pos h2]
        exact fun z => absurd z (ne j d1 h1 q)
      · rw [if_neg h1, if_neg h2]
        exact I.inj j k d1 d2 q q2
  el := by rw [List.length_set, List.length_set]; exact I.el
  sf := fun x d2 ex e2 => by
    rcases set_get e2 with ⟨h0, q⟩ | ⟨h0, q⟩
    · omega
    · rw [if_neg h0]
      exact I.sf x d2 ex q
/-- what is owned is other than what is new -/
theorem Sm.apart {K : PySem.W.Frag} {A : Anc} {σ : L2.St} {H G : Hp} {hs : List Addr} {own : Nat → Addr} {η : Env} {s : DS} {p : Addr} (I : Sm K M A σ H G hs own η s) (h : Nt H p) : ∀ j e, η[j]? = some (.o e) → own j ≠ p := fun j e ej z => by
  obtain ⟨o, e1, no⟩ := (I.ow j e ej).2.1.some
  rw [z] at e1
  exact h.no e1 no
end
section
variable (M : Mp) (X : Cx) (W : WX)
abbrev FEx (t : TE) (f : Env → DS → R D) : Prop := ∀ (A : Anc) (σ : L2.St) (H G : Hp) (hs : List Addr) (own : Nat → Addr) (η : Env) (s : DS) (Q : VK), Sm X.K M A σ H G hs own η s →
    RPost X.K M σ W G hs H (f η s) (fun d G' hs' _ H' => ∀ p, Nt H p → Fr1 X.K M G' hs' H' d p → Q (.ref p) H') → t σ H Q
structure DF (e : Expr) (f : Env → DS → R D) : Prop where
  ex : ∃ t, PE X e t ∧ FEx M X W t f
end
section
variable {M : Mp} {X : Cx} {W : WX} {e : Expr} {es : List Expr} {f : Env → DS → R D} {g : Env → DS → R (List D)} {pos : Pos}
/-- .. as a thing that stays -/
def calmD (f : Env → DS → R D) : Env → DS → R D := fun η s => (f η s).bind fun d s1 => if notObj d = true then .ok d s1 else .bad
theorem DF.de {e : Expr} {f : Env → DS → R D} (h : DF M X W e f) : DE M X W e (calmD f) := by
  obtain ⟨t, p, h⟩ := h.ex
  refine ⟨t, p, fun A σ H G hs own η s Q I hp => h A σ H G hs own η s Q I ?_⟩
  unfold calmD at hp
  cases q : f η s with
  | ok d s1 =>
    rw [q] at hp
    have hp2 : RPost X.K M σ W G hs H (if notObj d = true then R.ok d s1 else .bad) (fun d G' hs' _ H' => ∀ v, Rep X.K M G' hs' d v → Q v H') := hp
    intro G1 hs1 H1 S1 J1 p hp0 fr
    by_cases hn : notObj d = true
    · rw [if_pos hn] at hp2
      obtain ⟨o, ho, hr⟩ := at_rep fr.g fr.at_ (notObj_of hn) (notDic_of hn)
      exact hp2 _ hs1 H1 (S1.still hp0 fr.g) (J1.still ho fr.h fr.t fr.g (at_no fr.at_ ho)) _ hr
    · rw [if_neg hn] at hp2
      exact hp2.elim
  | ex c p s1 => rw [q] at hp; exact hp
  | bad => rw [q] at hp; exact hp
theorem df_lst (h : DA M X W es g) : DF M X W (.List es pos) (lstD g) := by
  obtain ⟨t, p, h⟩ := h.ex
  refine ⟨_, pe_lst p, fun A σ H G hs own η s Q I hp => ?_⟩
  refine h A σ H G hs own η s _ I (hp.bind.mono fun ds G1 hs1 s1 H1 S1 J1 h1 vs hvs => ?_)
  split at h1
  · rename_i hl
    refine ⟨by rw [line_, ← hvs.length]; exact hl, fun p hp => ?_⟩
    have k : ∀ a u, H1 a = some u → upd H1 p (.lst vs) a = some u := fun a u e => by rw [upd_ne (ne_of_none e hp)]; exact e
    exact h1 _ _ _ (Stp.extH k) (J1.extH k) p (S1.dm p (nt_none hp)) ⟨⟨vs, upd_same, hvs⟩, (J1.free hp).1, (J1.free hp).2.1, (J1.free hp).2.2⟩
  · exact h1.elim
theorem FPost.put {K : PySem.W.Frag} {A : Anc} {σ : L2.St} {H G : Hp} {hs : List Addr} {own : Nat → Addr} {η : Env} {s : DS} {E : Ends} {i : Nat} {d : D} {v : V} (I : Sm K M A σ H G hs own η s) (hr : Rep K M G hs d v) (h : FPost K M A W E (setF η i d s)) : E.nx (σ.set i (some v)) H := by
  unfold setF at h
  split at h
  · rename_i hl
    exact h _ H G hs own (I.set (by rw [← I.el]; exact hl) hr)
  · exact h.elim
theorem FPost.putO {K : PySem.W.Frag} {A : Anc} {σ : L2.St} {H0 H G G0 : Hp} {hs0 hs : List Addr} {own : Nat → Addr} {η : Env} {s0 s : DS} {E : Ends} {i : Nat} {d : D} {p : Addr} (I0 : Sm K M A σ H0 G0 hs0 own η s0) (S : Stp M G0 hs0 H0 G hs H) (J : Sim K M G hs s H) (h0 : Nt H0 p) (hr : Fr1 K M G hs H d p)
    (h : FPost K M A W E (setOF η i d s)) : E.nx (σ.set i (some (.ref p))) H := by
  unfold setOF at h
  split at h
  · rename_i hl
    have I := I0.step S J
    exact h _ H G hs _ (I.setO hl.1 (by rw [← I.el]; exact hl.2) hr (I0.stp.dm p h0) (fun j e _ ej => I0.apart h0 j e ej))
  · exact h.elim
theorem ds_set (i : Nat) {x : Str} {e : Expr} {fe : Env → DS → R D} {pos' pos : Pos} (hN : X.N.Nodup) (he : DE M X W e fe) (hi : X.N[i]? = some x := by rfl) (hx : Loc X.env.scope x := by first | exact Or.inl rfl | exact Or.inr rfl)
    (hs : swapsWith e (some (.Name x pos')) pos.line X.env = pure false := by rfl) (hf : X.fn x = true ∨ X.env.scope.names.lookup x = some .local := by first | exact .inl rfl | exact .inr rfl) : DSt M X W (.Assign [.Name x pos'] e pos) (setB i fe) := by
  obtain ⟨t, p, h⟩ := he.ex
  refine ⟨_, ps_set hN hi hx p hs hf, fun A σ H G hs own η s E I hp => ?_⟩
  exact h A σ H G hs own η s _ I ((hp.lift I).mono fun d G1 hs1 s1 H1 S1 J1 h1 v hv => FPost.put (I.step S1 J1) hv h1)
theorem ds_setO (i : Nat) {x : Str} {e : Expr} {fe : Env → DS → R D} {pos' pos : Pos} (hN : X.N.Nodup) (he : DF M X W e fe) (hi : X.N[i]? = some x := by rfl) (hx : Loc X.env.scope x := by first | exact Or.inl rfl | exact Or.inr rfl)
    (hs : swapsWith e (some (.Name x pos')) pos.line X.env = pure false := by rfl) (hf : X.fn x = true ∨ X.env.scope.names.lookup x = some .local := by first | exact .inl rfl | exact .inr rfl) : DSt M X W (.Assign [.Name x pos'] e pos) (setOB i fe) := by
  obtain ⟨t, p, h⟩ := he.ex
  refine ⟨_, ps_set hN hi hx p hs hf, fun A σ H G hs own η s E I hp => ?_⟩
  exact h A σ H G hs own η s _ I ((hp.lift I).mono fun d G1 hs1 s1 H1 S1 J1 h1 p h0 fr => FPost.putO I S1 J1 h0 fr h1)
/-- x op= e, x a plain name -/
def augB (i : Nat) (o : D → D → Option D) (fe : Env → DS → R D) : Env → DS → F := setB i (bopD o (vD i) fe)
end
end DL
set_option Elab.async false
set_option linter.all false
set_option maxRecDepth 100000
set_option maxHeartbeats 2000000
namespace DL
open PySem PySem.Spec PyProof.Rows L2
section
variable {M : Mp} {X : Cx} {W : WX}
def opAug : D → D → Option D
  | .int a, .int b => some (.int (a + b))
  | .str a, .str b => if a.length + b.length ≤ 16777216 then some (.str (a ++ b)) else none
  | _, _ => none
noncomputable def opMulI : D → D → Option D
  | .int a, .int b => if (small64 a || small64 b) = true then some (.int (a * b)) else none
  | _, _ => none
abbrev veB : List Value := [.type "ValueError", .type "Exception", .type "BaseException", .type "object"]
structure ExcOk (K : PySem.W.Frag) (mg : Str → Option Value) (M : Mp) (c : Nat) (x : Str) : Prop where
  g : mg x = some (.ref (M.exc c))
  x : PySem.W.excIn K (M.exc c) veB "ValueError.__new__" = true
  k : PySem.W.keepIn K (.ref (M.exc c)) = true
  b : PySem.W.subIn K (.ref (M.exc c)) (.type "BaseException") = some true
  t : PySem.W.typeIn K (.ref (M.exc c)) = some (.type "type")
/-- X(e), e any value -/
theorem pmk_arg {x : Str} {C : Addr} {bmB : List Value} {B newId initId : String} {a : Expr} {ta : TA} {p pos : Pos} (F : ExcBaseFacts B newId initId bmB) (q : PySem.W.excIn X.K C bmB newId = true) (gC : X.mg x = some (.ref C)) (kC : PySem.W.keepIn X.K (.ref C) = true) (r : Raises X (.ref C)) (ha : PA X [a] ta) (hg : Gl X x)
    (hdb : (x == ("__debug__" : Str)) = false := by decide) (he : starEach [a] X.env = (false, eval a X.env) :: starEach [] X.env := by rfl) (hpl : (backTo pos (starEach [] X.env)).any (·.1) = false := by rfl) :
    PMk X (.Call (.Name x p) [a] [] pos) (fun σ H Q => ta σ H fun vs H1 => vs.length = 1 ∧ Q (.ref C) none H1) := by
  intro pins s σ H Q I h
  refine wpAny_Call_Name_kw (ld_glob I hg gC ?_ hdb)
  refine PySem.W.callWith_K (h₀ := X.base) I.ok.mod.kin kC (thn (ha.run pos pins s σ H _ I h) fun us s1 hh => ?_) he hpl
  obtain ⟨vs, H1, I1, r1, ev, q1⟩ := hh
  refine ⟨I1.kIn, ?_⟩
  cases r1 with
  | nil => cases ev
  | cons ru rn =>
    rename_i v u vs' us'
    cases rn with
    | cons _ _ => simp at ev
    | nil =>
    show wpAny _ _ (call (.ref C) [u]) _ _ _
    obtain ⟨bm, N, nm, qn, bs, hdct, sn, sub, ab, col, dd, k0, k1, k2, k3, k5, mN, hC, hN, hni, T⟩ := exc_obj I1.kIn q
    refine wpAny_call_exc_subT F T hC hN hni (fun h' e hm => ?_) (by show 1 ≤ sizeLine; rw [sizeLine_eq]; omega)
    exact mk_of I1 hm r q1 (I1.hok.gone hm.new)
def raiseA (c : Nat) (g : Env → DS → R (List D)) : Env → DS → F := fun η s => (g η s).toF η fun _ s1 => .ex c [] η s1
theorem one_len {f : Env → DS → R D} : ∀ η s ds s', consA f nilA η s = .ok ds s' → ds.length = 1 := by
  intro η s ds s' h
  unfold consA nilA at h
  cases q : f η s with
  | ok d s1 => rw [q] at h; cases h; rfl
  | ex _ _ _ => rw [q] at h; cases h
  | bad => rw [q] at h; cases h
theorem ds_raise {c : Nat} {x : Str} {a : Expr} {g : Env → DS → R (List D)} {p pos pos2 : Pos} (E : ExcOk X.K X.mg M c x) (tk : Takes X W) (hc : X.calm = true) (ha : DA M X W [a] g) (hg : Gl X x := by rfl)
    (hdb : (x == ("__debug__" : Str)) = false := by decide) (he : starEach [a] X.env = (false, eval a X.env) :: starEach [] X.env := by rfl) (hpl : (backTo pos (starEach [] X.env)).any (·.1) = false := by rfl)
    (h1 : ∀ η s ds s', g η s = .ok ds s' → ds.length = 1 := by exact one_len) :
    DSt M X W (.Raise (some (.Call (.Name x p) [a] [] pos)) none pos2) (raiseA c g) := by
  obtain ⟨t, pa, h⟩ := ha.ex
  refine ⟨_, ps_raise hc tk (pmk_arg PySem.F.excBase_ValueError E.x E.g E.k (raises_own E.b E.t) pa hg hdb he hpl), fun A σ H G hs own η s En I hp => ?_⟩
  refine h A σ H G hs own η s _ I ?_
  have hp2 := FPost.lift I hp
  cases q : g η s with
  | ok ds s1 =>
    rw [q] at hp2
    intro G1 hs1 H1 S1 J1 vs hvs
    refine ⟨by rw [← hvs.length]; exact h1 η s ds s1 q, ?_⟩
    exact hp2 G1 hs1 H1 S1 J1 σ H1 G1 hs1 own (.ref (M.exc c)) none (I.step S1 J1) ⟨rfl, .inl ⟨rfl, rfl⟩⟩
  | ex c p s1 => rw [q] at hp2; exact hp2
  | bad => rw [q] at hp2; exact hp2
/-- only those names have changed -/
structure Chg (is : List Nat) (σ σ' : L2.St) : Prop where
  len : σ'.length = σ.length
  out : ∀ j, j ∉ is → σ'[j]? = σ[j]?
theorem Chg.refl (is : List Nat) (σ : L2.St) : Chg is σ σ := ⟨rfl, fun _ _ => rfl⟩
theorem Chg.trans {is js : List Nat} {σ σ1 σ2 : L2.St} (h : Chg is σ σ1) (k : Chg js σ1 σ2) : Chg (is ++ js) σ σ2 := ⟨k.len.trans h.len, fun j n => by
  rw [List.mem_append, not_or] at n
  rw [k.out j n.2, h.out j n.1]⟩
structure DG (M : Mp) (X : Cx) (tg : Expr) (f : D → Env → Option Env) (is : List Nat) : Prop where
  ex : ∃ g, PG X tg g ∧ ∀ (A : Anc) (σ : L2.St) (H G : Hp) (hs : List Addr) (own : Nat → Addr) (η η' : Env) (s : DS) (d : D) (v : V) (Q : L2.St → Hp → Prop), Sm X.K M A σ H G hs own η s → Rep X.K M G hs d v → f d η = some η' →
    (∀ σ', Sm X.K M A σ' H G hs own η' s → Chg is σ σ' → Q σ' H) → g v σ H Q
structure DGs (M : Mp) (X : Cx) (tgs : List Expr) (f : List D → Env → Option Env) (is : List Nat) (n : Nat) : Prop where
  ex : ∃ g, PGs X tgs g ∧ ∀ (A : Anc) (σ : L2.St) (H G : Hp) (hs : List Addr) (own : Nat → Addr) (η η' : Env) (s : DS) (ds : List D) (vs : List V) (Q : L2.St → Hp → Prop), Sm X.K M A σ H G hs own η s → RepL X.K M G hs ds vs → f ds η = some η' →
    (∀ σ', Sm X.K M A σ' H G hs own η' s → Chg is σ σ' → Q σ' H) → g vs σ H Q
  len : ∀ ds η η', f ds η = some η' → ds.length = n
def gN (i : Nat) : D → Env → Option Env := fun d η => if i < η.length then some (η.set i (.v d)) else none
def gsN : List D → Env → Option Env := fun ds η => match ds with
  | [] => some η
  | _ => none
def gsC (f : D → Env → Option Env) (g : List D → Env → Option Env) : List D → Env → Option Env := fun ds η => match ds with
  | d :: r => (f d η).bind (g r)
  | [] => none
def gT (g : List D → Env → Option Env) : D → Env → Option Env := fun d η => match d with
  | .tup ds => g ds η
  | _ => none
theorem dg_name (i : Nat) {x : Str} {pos : Pos} (hN : X.N.Nodup) (hi : X.N[i]? = some x := by rfl) (hx : Loc X.env.scope x := by first | exact Or.inl rfl | exact Or.inr rfl)
    (hf : X.fn x = true ∨ X.env.scope.names.lookup x = some .local := by first | exact .inl rfl | exact .inr rfl) : DG M X (.Name x pos) (gN i) [i] := by
  refine ⟨_, pg_name hN hi hx hf, fun A σ H G hs own η η' s d v Q I hr e k => ?_⟩
  unfold gN at e
  split at e
  · rename_i hl
    cases e
    exact k _ (I.set (by rw [← I.el]; exact hl) hr) ⟨List.length_set, fun j n => List.getElem?_set_ne (fun z => n (by rw [z]; exact List.mem_singleton_self _))⟩
  · cases e
theorem dgs_nil : DGs M X [] gsN [] 0 := by
  refine ⟨⟨_, pgs_nil, fun A σ H G hs own η η' s ds vs Q I hr e k => ?_⟩, fun ds η η' e => ?_⟩
  · unfold gsN at e
    split at e
    · cases e
      exact ⟨repL_nil.mp hr, k _ I (Chg.refl _ _)⟩
    · cases e
  · unfold gsN at e
    split at e
    · rfl
    · cases e
theorem dgs_cons {e : Expr} {es : List Expr} {f : D → Env → Option Env} {g : List D → Env → Option Env} {n : Nat} {is js : List Nat} (h1 : DG M X e f is) (h2 : DGs M X es g js n) (hs : (assignEach (e :: es) X.env).map (·.2) = assign e X.env :: (assignEach es X.env).map (·.2) := by rfl) : DGs M X (e :: es) (gsC f g) (is ++ js) (n + 1) := by
  obtain ⟨t, p, h⟩ := h1.ex
  obtain ⟨u, q, k⟩ := h2.ex
  refine ⟨⟨_, pgs_cons p q hs, fun A σ H G hs own η η' s ds vs Q I hr e kq => ?_⟩, fun ds η η' e => ?_⟩
  · unfold gsC at e
    split at e
    · rename_i d r
      rw [repL_cons] at hr
      obtain ⟨v, vr, rfl, hv, hvr⟩ := hr
      rw [Option.bind_eq_some_iff] at e
      obtain ⟨η1, e1, e2⟩ := e
      exact ⟨v, vr, rfl, h A σ H G hs own η η1 s d v _ I hv e1 fun σ1 I1 c1 => k A σ1 H G hs own η1 η' s r vr Q I1 hvr e2 fun σ2 I2 c2 => kq σ2 I2 (c1.trans c2)⟩
    · cases e
  · unfold gsC at e
    split at e
    · rw [Option.bind_eq_some_iff] at e
      obtain ⟨η1, e1, e2⟩ := e
      rw [List.length_cons, h2.len _ _ _ e2]
    · cases e
theorem dg_tup {es : List Expr} {kk : Nat} {pos : Pos} {g : List D → Env → Option Env} {n : Nat} {is : List Nat} (hc : X.calm = true) (h : DGs M X es g is n) (hn : (assignEach es X.env).length = n := by rfl) (hst : (assignEach es X.env).findIdx? (·.1) = none := by rfl) : DG M X (.Tuple es kk pos) (gT g) is := by
  obtain ⟨t, p, k⟩ := h.ex
  refine ⟨_, pg_tup hc p hn hst, fun A σ H G hs own η η' s d v Q I hr e kq => ?_⟩
  unfold gT at e
  split at e
  · obtain ⟨a, vs, rfl, h1, h2⟩ := rep_tup hr
    exact ⟨a, vs, rfl, same_seqT I.sim.sub h1, by rw [← h2.length]; exact h.len _ _ _ e, k A σ H G hs own η η' s _ vs Q I h2 e fun σ' I' c => kq σ' I' c⟩
  · cases e
/-- targets = e, e a tuple's value -/
def asgB (f : D → Env → Option Env) (fe : Env → DS → R D) : Env → DS → F := fun η s => (fe η s).toF η fun d s1 => match f d η with
  | some η' => .nx η' s1
  | none => .bad
theorem ds_asg {tg e : Expr} {f : D → Env → Option Env} {fe : Env → DS → R D} {pos : Pos} (he : DE M X W e fe) {is : List Nat} (hg : DG M X tg f is) (hs : swapsWithSole [tg] e pos.line X.env = pure false := by rfl) (hw : swappedStores [tg] e X.env = pure none := by rfl)
    (h1 : (assignEach [tg] X.env).map (·.2) = [assign tg X.env] := by rfl) : DSt M X W (.Assign [tg] e pos) (asgB f fe) := by
  obtain ⟨t, p, h⟩ := he.ex
  obtain ⟨g, pg, k⟩ := hg.ex
  refine ⟨_, ps_asg p pg hs hw h1, fun A σ H G hs own η s E I hp => ?_⟩
  refine h A σ H G hs own η s _ I ((hp.lift I).mono fun d G1 hs1 s1 H1 S1 J1 h2 v hv => ?_)
  cases q : f d η with
  | none => rw [q] at h2; exact h2.elim
  | some η' =>
    rw [q] at h2
    exact k A σ H1 G1 hs1 own η η' s1 d v _ (I.step S1 J1) hv q fun σ' I' _ => h2 σ' H1 G1 hs1 own I'
/-- x, y = a, b and three -/
def parB (is : List Nat) (fa : Env → DS → R (List D)) : Env → DS → F := fun η s => (fa η s).toF η fun ds s1 => putAll is ds η s1
where putAll : List Nat → List D → Env → DS → F
  | [], [], η, s => .nx η s
  | i :: is, d :: ds, η, s => if i < η.length then putAll is ds (η.set i (.v d)) s else .bad
  | _, _, _, _ => .bad
theorem ds_par2 (i j : Nat) {x y : Str} {a b : Expr} {fa : Env → DS → R (List D)} {px py pt pt2 pos : Pos} {kt k2 : Nat} (hc : X.calm = true) (hN : X.N.Nodup) (ha : DA M X W [a, b] fa) (hi : X.N[i]? = some x := by rfl) (hj : X.N[j]? = some y := by rfl) (hij : i ≠ j := by decide)
    (hx : X.env.scope.names.lookup x = some .local := by rfl) (hy : X.env.scope.names.lookup y = some .local := by rfl)
    (hw : swappedStores [.Tuple [.Name x px, .Name y py] kt pt] (.Tuple [a, b] k2 pt2) X.env = pure (some [x, y]) := by rfl)
    (hs : swapsWithSole [.Tuple [.Name x px, .Name y py] kt pt] (.Tuple [a, b] k2 pt2) pos.line X.env = pure false := by rfl) :
    DSt M X W (.Assign [.Tuple [.Name x px, .Name y py] kt pt] (.Tuple [a, b] k2 pt2) pos) (parB [i, j] fa) := by
  obtain ⟨t, p, h⟩ := ha.ex
  refine ⟨_, ps_par hc hN hi hj hij hx hy p hw hs, fun A σ H G hs own η s E I hp => ?_⟩
  refine h A σ H G hs own η s _ I ((hp.lift I).mono fun ds G1 hs1 s1 H1 S1 J1 h1 vs hvs => ?_)
  have I1 := I.step S1 J1
  match ds, h1 with
  | [d1, d2], h1 =>
    rw [repL_cons] at hvs
    obtain ⟨v1, vr, rfl, hv1, hvs⟩ := hvs
    rw [repL_cons] at hvs
    obtain ⟨v2, vr, rfl, hv2, hvs⟩ := hvs
    rw [repL_nil] at hvs
    subst hvs
    refine ⟨v1, v2, rfl, ?_⟩
    simp only [parB.putAll] at h1
    split at h1
    · rename_i l1
      split at h1
      · rename_i l2
        have I2 := I1.set (by rw [← I1.el]; exact l1) hv1
        exact h1 _ H1 G1 hs1 own (I2.set (by rw [← I2.el]; exact l2) hv2)
      · exact h1.elim
    · exact h1.elim
  | [], h1 => exact (show False from h1).elim
  | [d], h1 =>
    simp only [parB.putAll] at h1
    split at h1 <;> exact h1.elim
  | d1 :: d2 :: d3 :: r, h1 =>
    simp only [parB.putAll] at h1
    split at h1
    · split at h1 <;> exact h1.elim
    · exact h1.elim
theorem ds_par3 (i j l : Nat) {x y z : Str} {a b c : Expr} {fa : Env → DS → R (List D)} {px py pz pt pt2 pos : Pos} {kt k2 : Nat} (hc : X.calm = true) (hN : X.N.Nodup) (ha : DA M X W [a, b, c] fa) (hi : X.N[i]? = some x := by rfl) (hj : X.N[j]? = some y := by rfl) (hl : X.N[l]? = some z := by rfl) (hij : i ≠ j := by decide) (hil : i ≠ l := by decide) (hjl : j ≠ l := by decide)
    (hx : X.env.scope.names.lookup x = some .local := by rfl) (hy : X.env.scope.names.lookup y = some .local := by rfl) (hz : X.env.scope.names.lookup z = some .local := by rfl)
    (hw : swappedStores [.Tuple [.Name x px, .Name y py, .Name z pz] kt pt] (.Tuple [a, b, c] k2 pt2) X.env = pure (some [x, y, z]) := by rfl)
    (hs : swapsWithSole [.Tuple [.Name x px, .Name y py, .Name z pz] kt pt] (.Tuple [a, b, c] k2 pt2) pos.line X.env = pure false := by rfl) :
    DSt M X W (.Assign [.Tuple [.Name x px, .Name y py, .Name z pz] kt pt] (.Tuple [a, b, c] k2 pt2) pos) (parB [i, j, l] fa) := by
  obtain ⟨t, p, h⟩ := ha.ex
  refine ⟨_, ps_par3 hc hN hi hj hl hij hil hjl hx hy hz p hw hs, fun A σ H G hs own η s E I hp => ?_⟩
  refine h A σ H G hs own η s _ I ((hp.lift I).mono fun ds G1 hs1 s1 H1 S1 J1 h1 vs hvs => ?_)
  have I1 := I.step S1 J1
  match ds, h1 with
  | [d1, d2, d3], h1 =>
    rw [repL_cons] at hvs
    obtain ⟨v1, vr, rfl, hv1, hvs⟩ := hvs
    rw [repL_cons] at hvs
    obtain ⟨v2, vr, rfl, hv2, hvs⟩ := hvs
    rw [repL_cons] at hvs
    obtain ⟨v3, vr, rfl, hv3, hvs⟩ := hvs
    rw [repL_nil] at hvs
    subst hvs
    refine ⟨v1, v2, v3, rfl, ?_⟩
    simp only [parB.putAll] at h1
    split at h1
    · rename_i l1
      split at h1
      · rename_i l2
        split at h1
        · rename_i l3
          have I2 := I1.set (by rw [← I1.el]; exact l1) hv1
          have I3 := I2.set (by rw [← I2.el]; exact l2) hv2
          exact h1 _ H1 G1 hs1 own (I3.set (by rw [← I3.el]; exact l3) hv3)
        · exact h1.elim
      · exact h1.elim
    · exact h1.elim
  | [], h1 => exact (show False from h1).elim
  | [d], h1 =>
    simp only [parB.putAll] at h1
    split at h1 <;> exact h1.elim
  | [d, d'], h1 =>
    simp only [parB.putAll] at h1
    split at h1
    · split at h1 <;> exact h1.elim
    · exact h1.elim
  | d1 :: d2 :: d3 :: d4 :: r, h1 =>
    simp only [parB.putAll] at h1
    split at h1
    · split at h1
      · split at h1 <;> exact h1.elim
      · exact h1.elim
    · exact h1.elim
end
end DL
set_option Elab.async false
set_option linter.all false
set_option maxRecDepth 100000
set_option maxHeartbeats 2000000
namespace DL
open PySem PySem.Spec PyProof.Rows L2
inductive Plc where
  | slot (i : Nat) | han (k : Nat)
/-- the place stands at that value -/
def PV (own : Nat → Addr) (hs : List Addr) (η : Env) : Plc → V → Prop
  | .slot i, v => v = .ref (own i) ∧ ∃ d, η[i]? = some (.o d)
  | .han k, v => ∃ a, v = .ref a ∧ hs[k]? = some a
theorem PV.step {own : Nat → Addr} {hs hs' : List Addr} {η : Env} (p : Pre hs hs') : ∀ {pl : Plc} {v : V}, PV own hs η pl v → PV own hs' η pl v
  | .slot i, v, h => h
  | .han k, v, ⟨a, h1, h2⟩ => ⟨a, h1, p _ _ h2⟩
def plcD (pl : Plc) (η : Env) (s : DS) : Option D := match pl with
  | .slot i => match η[i]? with
    | some (.o d) => some d
    | _ => none
  | .han k => s[k]?
def plcSet (pl : Plc) (d : D) (η : Env) (s : DS) : F := match pl with
  | .slot i => .nx (η.set i (.o d)) s
  | .han k => .nx η (s.set k d)
def wrF (pl : Plc) (u : D → Option D) (η : Env) (s : DS) : F := match plcD pl η s with
  | some d => match u d with
    | some d' => plcSet pl d' η s
    | none => .bad
  | none => .bad
section
variable {M : Mp} {X : Cx} {W : WX}
structure DP (M : Mp) (X : Cx) (W : WX) (e : Expr) (f : Env → DS → R Plc) : Prop where
  ex : ∃ t, PE X e t ∧ ∀ (A : Anc) (σ : L2.St) (H G : Hp) (hs : List Addr) (own : Nat → Addr) (η : Env) (s : DS) (Q : VK), Sm X.K M A σ H G hs own η s →
    RPost X.K M σ W G hs H (f η s) (fun pl G' hs' _ H' => ∀ v, PV own hs' η pl v → Q v H') → t σ H Q
def plV (i : Nat) : Env → DS → R Plc := fun η s => match η[i]? with
  | some (.o _) => .ok (.slot i) s
  | some (.v (.han k)) => .ok (.han k) s
  | _ => .bad
def plE (f : Env → DS → R D) : Env → DS → R Plc := fun η s => (f η s).bind fun d s1 => match d with
  | .han k => .ok (.han k) s1
  | _ => .bad
theorem dp_v (i : Nat) {x : Str} {pos : Pos} (hN : X.N[i]? = some x := by rfl) (hv : Vis X.env.scope x := by first | exact Or.inl rfl | exact Or.inr (Or.inl rfl) | exact Or.inr (Or.inr rfl)) (hd : (x == ("__debug__" : Str)) = false := by decide)
    (hcd : (x == ("__classdict__" : Str)) = false := by decide) : DP M X W (.Name x pos) (plV i) := by
  refine ⟨_, pe_var hN hv hd hcd, fun A σ H G hs own η s Q I r => ?_⟩
  unfold plV at r
  split at r
  · rename_i d e
    exact ⟨_, (I.ow i d e).1, r G hs H (Stp.refl _ _ _ _) I.sim _ ⟨rfl, d, e⟩⟩
  · rename_i k e
    obtain ⟨v, h1, h2⟩ := I.pl i _ e
    exact ⟨v, h1, r G hs H (Stp.refl _ _ _ _) I.sim _ (rep_han.mp h2)⟩
  · exact r.elim
theorem dp_e {e : Expr} {f : Env → DS → R D} (h : DE M X W e f) : DP M X W e (plE f) := by
  obtain ⟨t, p, h⟩ := h.ex
  refine ⟨t, p, fun A σ H G hs own η s Q I r => ?_⟩
  refine h A σ H G hs own η s Q I (r.bind.mono fun d G1 hs1 s1 H1 S1 J1 h1 v hv => ?_)
  split at h1
  · exact h1 G1 hs1 H1 (Stp.refl _ _ _ _) J1 v (rep_han.mp hv)
  · exact h1.elim
theorem same_upd2 {G H : Hp} {a : Addr} {o : HO} (h : Same G H) (g : G a = none) : Same G (upd H a o) := fun b u e => by
  rw [upd_ne (ne_of_none e g)]
  exact h _ _ e
theorem RepAt.upd {K : PySem.W.Frag} {G H : Hp} {hs : List Addr} {a b : Addr} {d : D} {o : HO} (h : At K M G hs H b d) (n : b ≠ a) : At K M G hs (upd H a o) b d := h.mono (fun _ _ z => z) (Pre.refl _) (upd_ne n)
/-- a code object or a table -/
abbrev tb2 : (Heap → Prop) ⊕ Array Value → HO
  | .inl f => .ext f
  | .inr ps => .tbl ps
theorem at_nx {K : PySem.W.Frag} {M : Mp} {G H : Hp} {hs : List Addr} {a : Addr} : ∀ {d : D}, At K M G hs H a d → ∀ f, H a ≠ some (tb2 f)
  | .lst ds, ⟨vs, h1, h2⟩, f => by rw [h1]; exact fun z => by cases f <;> cases z
  | .dic kvs, ⟨vs, h1, h2⟩, f => by rw [h1]; exact fun z => by cases f <;> cases z
  | .dit kvs, ⟨vs, h1, h2⟩, f => by rw [h1]; exact fun z => by cases f <;> cases z
  | .obj c ds, ⟨dx, fs, h1, h2, h3⟩, f => by rw [h1]; exact fun z => by cases f <;> cases z
theorem tabs_upd {M : Mp} {H : Hp} {a : Addr} {o : HO} (h : TabsX M.tabs H) (n : ¬ inTab M a) (x : ∀ f, H a ≠ some (tb2 f)) : TabsX M.tabs (upd H a o) := by
  have e1 : ∀ {b f}, H b = some (tb2 f) → upd H a o b = some (tb2 f) := fun {b f} e => by
    rw [upd_ne (fun z => x f (by rw [← z]; exact e))]
    exact e
  have e2 : ∀ {b ps}, H b = some (.tbl ps) → upd H a o b = some (.tbl ps) := fun {b ps} e => e1 (f := .inr ps) e
  have kid : ∀ {P nm}, NdefX.TabN H P nm → NdefX.TabN (upd H a o) P nm := fun {P nm} ⟨ps, q1, q2, q3⟩ => ⟨ps, e2 q1, q2, fun pos cv hc => by
    obtain ⟨c, r1, r2⟩ := q3 pos cv hc
    exact ⟨c, r1, e1 (f := .inl _) r2⟩⟩
  refine ⟨fun p hp => ?_, fun c P q z => e1 (f := .inl _) (h.2 c P q z)⟩
  obtain ⟨ps, q1, q2, q3⟩ := h.1 p hp
  refine ⟨ps, e2 q1, q2, fun pos cv hc => ?_⟩
  obtain ⟨c, r1, r2⟩ := q3 pos cv hc
  refine ⟨c, r1, ?_⟩
  rcases r2 with ⟨k, r2⟩ | ⟨k, P, r2, r3, r4⟩
  · exact .inl ⟨k, e1 (f := .inl _) r2⟩
  · exact .inr ⟨k, P, e1 (f := .inl _) r2, r3, kid r4⟩
theorem at_tbl {K : PySem.W.Frag} {M : Mp} {G H : Hp} {hs : List Addr} {a : Addr} {d : D} {o : HO} (h : At K M G hs (upd H a o) a d) : ∀ ps, o ≠ .tbl ps := by
  obtain ⟨u, e, n⟩ := At.some h
  rw [upd_same] at e
  cases e
  exact n
/-- an object of one's own is written -/
theorem Sm.wr {K : PySem.W.Frag} {A : Anc} {σ : L2.St} {H G : Hp} {hs : List Addr} {own : Nat → Addr} {η : Env} {s : DS} {i : Nat} {d d' : D} {o : HO} (I : Sm K M A σ H G hs own η s) (e : η[i]? = some (.o d)) (h : At K M G hs (upd H (own i) o) (own i) d') :
    Sm K M A σ (upd H (own i) o) G hs own (η.set i (.o d')) s := by
  obtain ⟨h1, h2, h3, h4, h5, h6⟩ := I.ow i d e
  refine ⟨⟨same_upd2 I.sim.sub h3, I.sim.len, I.sim.nd, I.sim.hG, fun k a d2 e1 e2 => ?_, tabs_upd I.sim.tab h5 (at_nx h2), I.sim.tG⟩, ⟨I.stp.gg, I.stp.fr, I.stp.hp, I.stp.hf, fun a u q n t => ?_, fun a q => ?_⟩, fun j d2 ej => ?_, fun j d2 ej => ?_, fun j k d1 d2 e1 e2 => ?_, by rw [List.length_set]; exact I.el, fun x d2 ex e2 => ?_⟩
  · exact RepAt.upd (I.sim.han k a d2 e1 e2) fun z => h4 (by rw [← z]; exact List.mem_of_getElem? e1)
  · rw [upd_ne (fun z => h6.no (by rw [← z]; exact q) t)]
    exact I.stp.kp a u q n t
  · by_cases z : a = own i
    · rw [z]; exact h6
    · exact I.stp.dm a fun u e => q u (by rw [upd_ne z]; exact e)
  · rcases set_get ej with ⟨rfl, q⟩ | ⟨hji, q⟩
    · cases q
    · exact I.pl j d2 q
  · rcases set_get ej with ⟨rfl, q⟩ | ⟨hji, q⟩
    · cases q
      exact ⟨h1, h, h3, h4, h5, h6⟩
    · obtain ⟨k1, k2, k3, k4, k5, k6⟩ := I.ow j d2 q
      exact ⟨k1, RepAt.upd k2 (fun z => hji (I.inj j i d2 d q e z)), k3, k4, k5, k6⟩
  · rcases set_get e1 with ⟨r1, q⟩ | ⟨r1, q⟩
    · rcases set_get e2 with ⟨r2, q2⟩ | ⟨r2, q2⟩
      · rw [r1, r2]; exact fun _ => rfl
      · rw [r1]; exact I.inj i k d d2 e q2
    · rcases set_get e2 with ⟨r2, q2⟩ | ⟨r2, q2⟩
      · rw [r2]; exact I.inj j i d1 d q e
      · exact I.inj j k d1 d2 q q2
  · rcases set_get e2 with ⟨r2, q2⟩ | ⟨r2, q2⟩
    · rw [← r2] at e; exact I.sf x d ex e
    · exact I.sf x d2 ex q2
/-- a handle's object is written -/
theorem Sim.wr {K : PySem.W.Frag} {H G : Hp} {hs : List Addr} {s : DS} {k : Nat} {a : Addr} {d d' : D} {o : HO} (J : Sim K M G hs s H) (ha : hs[k]? = some a) (e : s[k]? = some d) (h : At K M G hs (upd H a o) a d') :
    Stp M G hs H G hs (upd H a o) ∧ Sim K M G hs (s.set k d') (upd H a o) := by
  have hm : a ∈ hs := List.mem_of_getElem? ha
  have hH : ∃ u, H a = some u := by
    obtain ⟨u, q, _⟩ := J.hanS hm
    exact ⟨u, q⟩
  refine ⟨⟨fun _ _ z => z, fun _ _ z => .inl z, Pre.refl _, fun _ z => .inl z, fun b u q n t => ?_, fun b q => ?_⟩, ⟨same_upd2 J.sub (J.hG a hm), by rw [List.length_set]; exact J.len, J.nd, J.hG, fun j b d2 e1 e2 => ?_, tabs_upd J.tab (fun z => ?_) (at_nx (J.han k a d ha e)), J.tG⟩⟩
  · rw [upd_ne (fun z => n (by rw [z]; exact hm))]
    exact q
  · by_cases z : b = a
    · subst z
      exact (q.no upd_same (at_tbl h)).elim
    · exact fun u e => q u (by rw [upd_ne z]; exact e)
  · by_cases hj : j = k
    · subst hj
      rw [ha] at e1
      cases e1
      rw [List.getElem?_set_self (List.getElem?_eq_some_iff.mp e).1] at e2
      cases e2
      exact h
    · rw [List.getElem?_set_ne (Ne.symm hj)] at e2
      refine RepAt.upd (J.han j b d2 e1 e2) fun z => hj ?_
      subst z
      exact (List.getElem?_inj (List.getElem?_eq_some_iff.mp e1).1 J.nd).mp (e1.trans ha.symm)
  · obtain ⟨ps, q1⟩ := J.tabS z
    obtain ⟨u, q3, q4⟩ := J.hanS hm
    rw [q1] at q3
    exact q4 ps (Option.some.inj q3).symm
/-- a place is written -/
theorem wr_post {A : Anc} {σ : L2.St} {H G : Hp} {hs : List Addr} {own : Nat → Addr} {η : Env} {s : DS} {E : Ends} {pl : Plc} {v : V} {u : D → Option D} (I : Sm X.K M A σ H G hs own η s) (hv : PV own hs η pl v) (hp : FPost X.K M A W E (wrF pl u η s)) :
    ∃ a d d', v = .ref a ∧ At X.K M G hs H a d ∧ u d = some d' ∧ plcD pl η s = some d ∧ ∀ o, At X.K M G hs (upd H a o) a d' → E.nx σ (upd H a o) := by
  unfold wrF at hp
  split at hp
  · rename_i d ed
    split at hp
    · rename_i d' eu
      cases pl with
      | slot i =>
        obtain ⟨rfl, d0, e0⟩ := hv
        have ed2 : η[i]? = some (.o d) := by
          simp only [plcD, e0] at ed
          rw [e0, Option.some.inj ed]
        exact ⟨_, d, d', rfl, (I.ow i d ed2).2.1, eu, ed, fun o ho => hp σ _ G hs own (I.wr ed2 ho)⟩
      | han k =>
        obtain ⟨a, rfl, ha⟩ := hv
        have ed2 : s[k]? = some d := ed
        exact ⟨a, d, d', rfl, I.sim.han k a d ha ed2, eu, ed, fun o ho => by
          obtain ⟨S1, J1⟩ := I.sim.wr ha ed2 ho
          exact hp σ _ G hs own (I.step S1 J1)⟩
    · exact hp.elim
  · exact hp.elim
structure WrM (M : Mp) (X : Cx) (T id : String) (ty : D → Bool) (u : List D → D → Option D) : Prop where
  ex : ∃ r, MtR X id r ∧ (∀ (G H : Hp) (hs : List Addr) (a : Addr) (d : D), At X.K M G hs H a d → ty d = true → tyV X.K T (.ref a) H) ∧
    ∀ (G H : Hp) (hs : List Addr) (a : Addr) (d d' : D) (ds : List D) (vs : List V) (Q : VK), Same G H → At X.K M G hs H a d → RepL X.K M G hs ds vs → u ds d = some d' → (∀ o v, At X.K M G hs (upd H a o) a d' → Q v (upd H a o)) → r (.ref a) vs H Q
def appU : List D → D → Option D
  | [x], .lst ds => if ds.length < 16777216 then some (.lst (ds ++ [x])) else none
  | _, _ => none
def isLst : D → Bool
  | .lst _ => true
  | _ => false
theorem isLst_ty (G H : Hp) (hs : List Addr) (a : Addr) (d : D) (h : At X.K M G hs H a d) (e : isLst d = true) : tyV X.K "list" (.ref a) H := by
  unfold isLst at e
  split at e
  · obtain ⟨vs, h1, h2⟩ := h
    exact .inl ⟨rfl, vs, .inl (.inl h1)⟩
  · cases e
theorem wm_append : WrM M X "list" "list.append" isLst appU := by
  refine ⟨_, mt_append, isLst_ty, fun G H hs a d d' ds vs Q sm h hd e k => ?_⟩
  · unfold appU at e
    split at e
    · rename_i x ds0
      obtain ⟨ws, h1, h2⟩ := h
      split at e
      · rename_i hl
        cases e
        rw [repL_cons] at hd
        obtain ⟨y, yr, rfl, hy, hr⟩ := hd
        rw [repL_nil] at hr
        subst hr
        refine ⟨a, ws, y, rfl, rfl, h1, by rw [line_, ← h2.length]; exact hl, k _ _ ⟨_, upd_same, h2.append (repL_cons.mpr ⟨y, [], rfl, hy, repL_nil.mpr rfl⟩)⟩⟩
      · cases e
    · cases e
/-- o.m(e, ..) that writes o -/
def mtB (ty : D → Bool) (fp : Env → DS → R Plc) (fa : Env → DS → R (List D)) (u : List D → D → Option D) : Env → DS → F := fun η s => (fp η s).toF η fun pl s1 => match plcD pl η s1 with
  | some d0 => if ty d0 = true then (fa η s1).toF η fun ds s2 => wrF pl (u ds) η s2 else .bad
  | none => .bad
theorem ds_mt {o e : Expr} {es : List Expr} {name : Str} {T id : String} {fp : Env → DS → R Plc} {fa : Env → DS → R (List D)} {u : List D → D → Option D} {ty : D → Bool} {apos cpos pos : Pos} (pa : PlainAttrs T) (slot : Slot T name id) (hty : typeOf (.builtin id) = pure (.type "method_descriptor")) (hw : WrM M X T id ty u) (ho : DP M X W o fp) (ha : DA M X W (e :: es) fa)
    (hs : swapsWith (.Call (.Attribute o name apos) (e :: es) [] cpos) none pos.line X.env = pure false := by rfl)
    (hbase : attributeBase o name X.env (eval o X.env) = eval o X.env := by rfl)
    (hfew : ((backTo cpos (starEach (e :: es) X.env)).all (fun x => !x.1) && (backToKw cpos (keywordEach [] X.env)).all (fun x => x.1.isSome)
      && decide ((e :: es).length + ([] : List Keyword).length + (if ([] : List Keyword).isEmpty then 0 else 1) < 30)) = true := by rfl)
    (hline : (apos.endLine == cpos.line) = true := by rfl) (hse : starEach (e :: es) X.env = (false, eval e X.env) :: starEach es X.env := by rfl) (hplain : (backTo cpos (starEach es X.env)).any (·.1) = false := by rfl) :
    DSt M X W (.Expr (.Call (.Attribute o name apos) (e :: es) [] cpos) pos) (mtB ty fp fa u) := by
  obtain ⟨t, p, h⟩ := ho.ex
  obtain ⟨ta, pa2, k⟩ := ha.ex
  obtain ⟨r, hr, hT, kw⟩ := hw.ex
  refine ⟨_, ps_expr (pe_bm pa slot hty hr p pa2 hbase hfew hline hse hplain) hs, fun A σ H G hs own η s E I hp => ?_⟩
  refine h A σ H G hs own η s _ I ((hp.lift I).mono fun pl G1 hs1 s1 H1 S1 J1 h1 v hv => ?_)
  have I1 := I.step S1 J1
  split at h1
  · rename_i d0 ed0
    have hA : ∃ a, v = .ref a ∧ At X.K M G1 hs1 H1 a d0 := by
      cases pl with
      | slot i =>
        obtain ⟨rfl, d1, e1⟩ := hv
        simp only [plcD, e1] at ed0
        cases ed0
        exact ⟨_, rfl, (I1.ow i _ e1).2.1⟩
      | han k =>
        obtain ⟨a, rfl, ha⟩ := hv
        exact ⟨a, rfl, J1.han k a d0 ha ed0⟩
    obtain ⟨a, rfl, hA⟩ := hA
    split at h1
    case isFalse => exact h1.elim
    rename_i hty2
    refine ⟨hT _ _ _ _ _ hA hty2, k A σ H1 G1 hs1 own η s1 _ I1 ((h1.lift I1).mono fun ds G2 hs2 s2 H2 S2 J2 h2 vs hvs => ?_)⟩
    have I2 := I1.step S2 J2
    obtain ⟨a2, d, d', ea, hat, eu, _, kk⟩ := wr_post I2 (hv.step S2.hp) h2
    cases ea
    exact kw G2 H2 hs2 a d d' ds vs _ J2.sub hat hvs eu fun o v ho => kk o ho
  · exact h1.elim
end
end DL
set_option Elab.async false
set_option linter.all false
set_option maxRecDepth 100000
set_option maxHeartbeats 2000000
namespace DL
open PySem PySem.Spec PyProof.Rows L2
section
variable {M : Mp} {X : Cx} {W : WX}
structure StI (M : Mp) (X : Cx) (u : D → D → D → Option D) : Prop where
  ex : ∃ r, PSet X r ∧ ∀ (G H : Hp) (hs : List Addr) (a : Addr) (d d' i x : D) (vi vx : V) (Q : Hp → Prop), Same G H → At X.K M G hs H a d → Rep X.K M G hs i vi → Rep X.K M G hs x vx → u i x d = some d' →
    (∀ o, At X.K M G hs (upd H a o) a d' → Q (upd H a o)) → r (.ref a) vi vx H Q
def setL : D → D → D → Option D
  | .int k, x, .lst ds => (ixN ds.length k).map fun j => .lst (ds.set j x)
  | _, _, _ => none
theorem si_list : StI M X setL := by
  refine ⟨_, set_list, fun G H hs a d d' i x vi vx Q sm h hi hx e k => ?_⟩
  unfold setL at e
  split at e
  · rename_i n ds
    obtain ⟨ws, h1, h2⟩ := h
    rw [Option.map_eq_some_iff] at e
    obtain ⟨j, ej, e2⟩ := e
    subst e2
    rw [rep_int] at hi
    exact ⟨a, ws, n, j, rfl, hi, h1, by rw [← h2.length]; exact ej, k _ ⟨_, upd_same, h2.set j hx⟩⟩
  · cases e
def getL : D → D → Option D
  | .int k, .lst ds => atI ds k
  | _, _ => none
def stB (fe : Env → DS → R D) (fp : Env → DS → R Plc) (fi : Env → DS → R D) (u : D → D → D → Option D) : Env → DS → F := fun η s => (fe η s).toF η fun x s1 => (fp η s1).toF η fun pl s2 => (fi η s2).toF η fun i s3 => wrF pl (u i x) η s3
theorem ds_st {o i e : Expr} {fp : Env → DS → R Plc} {fi fe : Env → DS → R D} {u : D → D → D → Option D} {tpos pos : Pos} (he : DE M X W e fe) (ho : DP M X W o fp) (hi : DE M X W i fi) (hw : StI M X u)
    (ha : ∀ v, assign (.Subscript o i tpos) X.env v = (do
      let ov ← holding [v] (eval o X.env)
      let iv ← holding [v, ov] (eval i X.env)
      standAt tpos
      holding [v, ov, iv] (setItem ov iv v)
      release [v, ov, iv] []) := by intro _; rfl)
    (hs : swapsWithSole [.Subscript o i tpos] e pos.line X.env = pure false := by rfl) (hsw : swappedStores [.Subscript o i tpos] e X.env = pure none := by rfl)
    (h1 : (assignEach [.Subscript o i tpos] X.env).map (·.2) = [assign (.Subscript o i tpos) X.env] := by rfl) : DSt M X W (.Assign [.Subscript o i tpos] e pos) (stB fe fp fi u) := by
  obtain ⟨t, p, h⟩ := he.ex
  obtain ⟨t2, p2, k2⟩ := ho.ex
  obtain ⟨t3, p3, k3⟩ := hi.ex
  obtain ⟨r, hr, kw⟩ := hw.ex
  refine ⟨_, ps_asg p (pg_sub p2 p3 hr ha) hs hsw h1, fun A σ H G hs own η s E I hp => ?_⟩
  refine h A σ H G hs own η s _ I ((hp.lift I).mono fun x G1 hs1 s1 H1 S1 J1 q1 vx hvx => ?_)
  have I1 := I.step S1 J1
  refine k2 A σ H1 G1 hs1 own η s1 _ I1 ((q1.lift I1).mono fun pl G2 hs2 s2 H2 S2 J2 q2 v hv => ?_)
  have I2 := I1.step S2 J2
  refine k3 A σ H2 G2 hs2 own η s2 _ I2 ((q2.lift I2).mono fun d G3 hs3 s3 H3 S3 J3 q3 vi hvi => ?_)
  have I3 := I2.step S3 J3
  obtain ⟨a, d, d', rfl, hat, eu, _, kk⟩ := wr_post I3 (hv.step S3.hp) q3
  exact kw G3 H3 hs3 a d d' _ x vi vx _ J3.sub hat hvi (hvx.mono (S2.gg.trans S3.gg) (S2.hp.trans S3.hp)) eu kk
def stAugB (fp : Env → DS → R Plc) (fi : Env → DS → R D) (g : D → D → Option D) (o : D → D → Option D) (fe : Env → DS → R D) (u : D → D → D → Option D) : Env → DS → F := fun η s =>
  (fp η s).toF η fun pl s1 => (fi η s1).toF η fun i s2 => match (plcD pl η s2).bind (g i) with
    | some x => (fe η s2).toF η fun y s3 => match o (deref s3 x) (deref s3 y) with
      | some z => wrF pl (u i z) η s3
      | none => .bad
    | none => .bad
theorem PV.at_ {A : Anc} {σ : L2.St} {H G : Hp} {hs : List Addr} {own : Nat → Addr} {η : Env} {s : DS} {pl : Plc} {v : V} {d0 : D} (I : Sm X.K M A σ H G hs own η s) (hv : PV own hs η pl v) (ed0 : plcD pl η s = some d0) : ∃ a, v = .ref a ∧ At X.K M G hs H a d0 := by
  cases pl with
  | slot i =>
    obtain ⟨rfl, d1, e1⟩ := hv
    simp only [plcD, e1] at ed0
    cases ed0
    exact ⟨_, rfl, (I.ow i _ e1).2.1⟩
  | han k =>
    obtain ⟨a, rfl, ha⟩ := hv
    exact ⟨a, rfl, I.sim.han k a d0 ha ed0⟩
def fldU (c j : Nat) (x : D) : D → Option D
  | .obj c' ds => if c' = c ∧ j ≤ ds.length then some (.obj c (if j < ds.length then ds.set j x else ds ++ [x])) else none
  | _ => none
theorem putF_keys : ∀ {fs : List (Str × V)} {j : Nat} {f : Str} {v : V}, (fs.map (·.1)).Nodup → (fs.map (·.1))[j]? = some f → (putF f v fs).map (·.1) = fs.map (·.1) ∧ (putF f v fs).map (·.2) = (fs.map (·.2)).set j v
  | [], _, _, _, _, h => by simp at h
  | (g, w) :: fs, 0, f, v, _, h => by
    simp at h
    subst h
    simp [putF]
  | (g, w) :: fs, j + 1, f, v, nd, h => by
    rw [List.map_cons, List.nodup_cons] at nd
    have h3 : (fs.map (·.1))[j]? = some f := by simpa using h
    have hne : ¬ g = f := fun e => nd.1 (by rw [e]; exact List.mem_of_getElem? h3)
    obtain ⟨q1, q2⟩ := putF_keys (v := v) nd.2 h3
    refine ⟨?_, ?_⟩
    · rw [putF, if_neg hne, List.map_cons, q1, List.map_cons]
    · rw [putF, if_neg hne, List.map_cons, q2, List.map_cons, List.set_cons_succ]
theorem putF_new : ∀ {fs : List (Str × V)} {f : Str} {v : V}, f ∉ fs.map (·.1) → putF f v fs = fs ++ [(f, v)]
  | [], _, _, _ => rfl
  | (g, w) :: fs, f, v, h => by
    rw [List.map_cons, List.mem_cons, not_or] at h
    rw [putF, if_neg (fun e => h.1 e.symm), putF_new h.2]
    rfl
theorem at_fld {K : PySem.W.Frag} {G H : Hp} {hs : List Addr} {a : Addr} {c j : Nat} {f : Str} {d d' x : D} {vx : V} (C : ClsOk K M c) (hf : (M.flds c)[j]? = some f) (h : At K M G hs H a d) (hx : Rep K M G hs x vx) (e : fldU c j x d = some d') :
    ∃ dx fs, H a = some (.ins (M.cls c) dx fs) ∧ fs.length < 1000 ∧ At K M G hs (upd H a (.ins (M.cls c) dx (putF f vx fs))) a d' := by
  unfold fldU at e
  split at e
  · rename_i c' ds
    split at e
    · rename_i hc
      obtain ⟨rfl, hj⟩ := hc
      cases e
      obtain ⟨dx, fs, h1, h2, h3⟩ := h
      have hjl : j < (M.flds c').length := (List.getElem?_eq_some_iff.mp hf).1
      have hle : (fs.map (·.1)).length ≤ (M.flds c').length := by rw [h2, List.length_take]; omega
      have hfl : fs.length = ds.length := by rw [h3.length, List.length_map]
      refine ⟨dx, fs, h1, by rw [List.length_map] at hle; have := C.few; omega, dx, putF f vx fs, upd_same, ?_⟩
      split
      · rename_i hlt
        have hk : (fs.map (·.1))[j]? = some f := by rw [h2, List.getElem?_take_of_lt hlt]; exact hf
        obtain ⟨q1, q2⟩ := putF_keys (v := vx) (by rw [h2]; exact C.nd.sublist (List.take_sublist _ _)) hk
        rw [q1, q2, List.length_set]
        exact ⟨h2, h3.set j hx⟩
      · rename_i hlt
        have hje : j = ds.length := by omega
        have hn : f ∉ fs.map (·.1) := fun z => by
          rw [h2] at z
          obtain ⟨i, hi, ei⟩ := List.getElem_of_mem z
          rw [List.length_take] at hi
          rw [List.getElem_take] at ei
          have hij : i = j := (List.getElem?_inj (by omega) C.nd).mp (by rw [hf, List.getElem?_eq_getElem (by omega), ei])
          omega
        rw [putF_new hn, List.map_append, List.map_append, h2, List.length_append]
        refine ⟨?_, h3.append (repL_cons.mpr ⟨vx, [], rfl, hx, repL_nil.mpr rfl⟩)⟩
        have := List.take_succ (l := M.flds c') (i := j)
        rw [hf] at this
        rw [← hje]
        exact this.symm
    · cases e
  · cases e
def fldB (c j : Nat) (fe : Env → DS → R D) (fp : Env → DS → R Plc) : Env → DS → F := fun η s => (fe η s).toF η fun x s1 => (fp η s1).toF η fun pl s2 => wrF pl (fldU c j x) η s2
theorem ds_fld {o e : Expr} {c j : Nat} {f : Str} {fp : Env → DS → R Plc} {fe : Env → DS → R D} {pos' pos : Pos} (C : ClsOk X.K M c) (ho : DP M X W o fp) (he : DE M X W e fe) (hf : (M.flds c)[j]? = some f := by rfl) (hs : swapsWith e (some (.Attribute o f pos')) pos.line X.env = pure false := by rfl) :
    DSt M X W (.Assign [.Attribute o f pos'] e pos) (fldB c j fe fp) := by
  obtain ⟨t, p, h⟩ := he.ex
  obtain ⟨t2, p2, k2⟩ := ho.ex
  refine ⟨_, ps_fld p2 p hs, fun A σ H G hs own η s E I hp => ?_⟩
  refine h A σ H G hs own η s _ I ((hp.lift I).mono fun x G1 hs1 s1 H1 S1 J1 q1 vx hvx => ?_)
  have I1 := I.step S1 J1
  refine k2 A σ H1 G1 hs1 own η s1 _ I1 ((q1.lift I1).mono fun pl G2 hs2 s2 H2 S2 J2 q2 v hv => ?_)
  have I2 := I1.step S2 J2
  obtain ⟨a, d, d', rfl, hat, eu, _, kk⟩ := wr_post I2 hv q2
  obtain ⟨dx, fs, e1, e2, e3⟩ := at_fld C hf hat (hvx.mono S2.gg S2.hp) eu
  exact ⟨a, _, dx, fs, rfl, e1, C.cl, C.no f (List.mem_of_getElem? hf), e2, kk _ e3⟩
def fldAugB (c j : Nat) (fp : Env → DS → R Plc) (oo : D → D → Option D) (fe : Env → DS → R D) : Env → DS → F := fun η s =>
  (fp η s).toF η fun pl s1 => match (plcD pl η s1).bind (fldO c j) with
    | some x => (fe η s1).toF η fun y s2 => match oo (deref s2 x) (deref s2 y) with
      | some z => wrF pl (fldU c j z) η s2
      | none => .bad
    | none => .bad
theorem Sim.newHan {K : PySem.W.Frag} {G H : Hp} {hs : List Addr} {s : DS} {d : D} {p : Addr} (J : Sim K M G hs s H) (h : Fr1 K M G hs H d p) : Sim K M G (hs ++ [p]) (s ++ [d]) H := by
  refine ⟨J.sub, by rw [List.length_append, List.length_append, J.len]; rfl, ?_, fun a ha => ?_, fun k a d2 e1 e2 => ?_, J.tab, J.tG⟩
  · exact List.nodup_append.mpr ⟨J.nd, List.nodup_cons.mpr ⟨List.not_mem_nil, List.nodup_nil⟩, fun a ha b hb e => by
      rw [List.mem_singleton] at hb
      exact h.h (by rw [← hb, ← e]; exact ha)⟩
  · rcases List.mem_append.mp ha with z | z
    · exact J.hG a z
    · rw [List.mem_singleton] at z
      rw [z]; exact h.g
  · by_cases hk : k < hs.length
    · rw [List.getElem?_append_left hk] at e1
      rw [List.getElem?_append_left (by rw [← J.len]; exact hk)] at e2
      exact (J.han k a d2 e1 e2).mono (fun _ _ z => z) (Pre.snoc _ _) rfl
    · rw [List.getElem?_append_right (by omega)] at e1
      rw [List.getElem?_append_right (by rw [← J.len]; omega)] at e2
      have hk2 : k - hs.length = 0 := by
        have := (List.getElem?_eq_some_iff.mp e1).1
        simp at this
        omega
      rw [hk2] at e1
      rw [← J.len, hk2] at e2
      simp at e1 e2
      subst e1 e2
      exact h.at_.mono (fun _ _ z => z) (Pre.snoc _ _) rfl
theorem Stp.newHan {G G' H H' : Hp} {hs hs' : List Addr} {p : Addr} (S : Stp M G hs H G' hs' H') (h : Nt H p) : Stp M G hs H G' (hs' ++ [p]) H' :=
  ⟨S.gg, S.fr, S.hp.trans (Pre.snoc _ _), fun a ha => by
    rcases List.mem_append.mp ha with z | z
    · exact S.hf a z
    · rw [List.mem_singleton] at z
      rw [z]; exact .inr h, S.kp, S.dm⟩
def hanD (f : Env → DS → R D) : Env → DS → R D := fun η s => (f η s).bind fun d s1 => .ok (.han s1.length) (s1 ++ [d])
theorem DF.han {e : Expr} {f : Env → DS → R D} (h : DF M X W e f) : DE M X W e (hanD f) := by
  obtain ⟨t, p, h⟩ := h.ex
  refine ⟨t, p, fun A σ H G hs own η s Q I hp => h A σ H G hs own η s Q I ?_⟩
  unfold hanD at hp
  cases q : f η s with
  | ok d s1 =>
    rw [q] at hp
    have hp2 : RPost X.K M σ W G hs H (R.ok (D.han s1.length) (s1 ++ [d])) (fun d G' hs' _ H' => ∀ v, Rep X.K M G' hs' d v → Q v H') := hp
    intro G1 hs1 H1 S1 J1 p hp0 fr
    exact hp2 G1 (hs1 ++ [p]) H1 (S1.newHan hp0) (J1.newHan fr) (.ref p) (rep_han.mpr ⟨p, rfl, by rw [← J1.len]; simp⟩)
  | ex c p s1 => rw [q] at hp; exact hp
  | bad => rw [q] at hp; exact hp
end
end DL
set_option Elab.async false
set_option linter.all false
set_option maxRecDepth 100000
set_option maxHeartbeats 2000000
namespace DL
open PySem PySem.Spec PyProof.Rows L2
section
variable {M : Mp} {X : Cx} {W : WX} {K : PySem.W.Frag}
structure AncLe (K : PySem.W.Frag) (M : Mp) (A A' : Anc) : Prop where
  st : ∀ G hs H, Stp M A'.G A'.hs A'.H G hs H → Stp M A.G A.hs A.H G hs H
  no : ∀ a, Nt A'.H a → Nt A.H a
  sf : A'.slf = A.slf
theorem AncLe.sm {A A' : Anc} {σ : L2.St} {H G : Hp} {hs : List Addr} {own : Nat → Addr} {η : Env} {s : DS} (h : AncLe K M A A') (I : Sm K M A' σ H G hs own η s) : Sm K M A σ H G hs own η s :=
  ⟨I.sim, h.st _ _ _ I.stp, I.pl, fun i d e => by
    obtain ⟨h1, h2, h3, h4, h5, h6⟩ := I.ow i d e
    exact ⟨h1, h2, h3, h4, h5, h.no _ h6⟩, I.inj, I.el, fun x d e => I.sf x d (by rw [h.sf]; exact e)⟩
theorem AncLe.post {A A' : Anc} {E : Ends} {r : F} (h : AncLe K M A A') (p : FPost K M A W E r) : FPost K M A' W E r := by
  cases r with
  | nx η s => exact fun σ H G hs own I => p σ H G hs own (h.sm I)
  | rt d s => exact fun H G hs v S => p H G hs v (h.st _ _ _ S)
  | bk η s => exact fun σ H G hs own I => p σ H G hs own (h.sm I)
  | ct η s => exact fun σ H G hs own I => p σ H G hs own (h.sm I)
  | ex c q η s => exact fun σ H G hs own cls dx I => p σ H G hs own cls dx (h.sm I)
  | bad => exact p
open Classical in
theorem Sm.anew {A : Anc} {σ : L2.St} {H G : Hp} {hs : List Addr} {own : Nat → Addr} {η : Env} {s : DS} (I : Sm K M A σ H G hs own η s) : ∃ A' : Anc, A'.G = G ∧ A'.hs = hs ∧ AncLe K M A A' ∧ Sm K M A' σ H G hs own η s := by
  let P : Addr → Prop := fun a => ∃ i d, η[i]? = some (.o d) ∧ own i = a
  have hP : ∀ a, P a → Nt A.H a := fun a ⟨i, d, e, z⟩ => by
    obtain ⟨_, _, _, _, _, h6⟩ := I.ow i d e
    rw [← z]; exact h6
  have dm : ∀ a, Nt (fun a => if P a then none else H a) a → Nt A.H a := fun a e => by
    by_cases p : P a
    · exact hP a p
    · exact I.stp.dm a fun o q => e o (by dsimp only; rw [if_neg p]; exact q)
  refine ⟨⟨G, hs, fun a => if P a then none else H a, A.slf⟩, rfl, rfl, ⟨fun G2 hs2 H2 S => ⟨I.stp.gg.trans S.gg, fun a o e => ?_, I.stp.hp.trans S.hp, fun a ha => ?_, fun a o e n t => ?_, fun a e => dm a (S.dm a e)⟩, dm, rfl⟩, I.sim, ⟨fun _ _ h => h, fun _ _ h => .inl h, Pre.refl _, fun _ h => .inl h, fun a o e _ _ => ?_, fun a e => ?_⟩, I.pl, fun i d e => ?_, I.inj, I.el, I.sf⟩
  · rcases S.fr a o e with z | z
    · exact I.stp.fr a o z
    · refine .inr ?_
      rcases z with z | ⟨⟨vs, z, fo⟩, n⟩
      · exact .inl (dm a z)
      · refine I.stp.back (.inr ⟨⟨vs, ?_, fo⟩, n⟩)
        dsimp only at z
        split at z
        · cases z
        · exact z
  · rcases S.hf a ha with z | z
    · exact I.stp.hf a z
    · exact .inr (dm a z)
  · have n2 : a ∉ hs := fun z => by
      rcases I.stp.hf a z with q | q
      · exact n q
      · exact q.no e t
    refine S.kp a o ?_ n2 t
    dsimp only
    rw [if_neg (fun p => (hP a p).no e t)]
    exact I.stp.kp a o e n t
  · dsimp only at e
    split at e
    · cases e
    · exact e
  · intro o q
    dsimp only at q
    split at q
    · cases q
    · exact e o q
  · obtain ⟨h1, h2, h3, h4, h5, h6⟩ := I.ow i d e
    refine ⟨h1, h2, h3, h4, h5, nt_none ?_⟩
    dsimp only
    rw [if_pos ⟨i, d, e, rfl⟩]
/-- J yields ds, whatever is done meanwhile to what may be written -/
def ItC (K : PySem.W.Frag) (M : Mp) (G : Hp) (hs : List Addr) (J : It) (ds : List D) : Prop := ∀ (G2 : Hp) (hs2 : List Addr) (s2 : DS) (H2 : Hp), Same G G2 → Pre hs hs2 → Sim K M G2 hs2 s2 H2 → ∀ i : Nat,
  (ds[i]? = none → J.stop i H2) ∧ ∀ d, ds[i]? = some d → J.go i H2 ∧ ∀ x H', J.yld i H2 x H' → ∃ G', Stp M G2 hs2 H2 G' hs2 H' ∧ Sim K M G' hs2 s2 H' ∧ Rep K M G' hs2 d x
/-- .. if nothing is written -/
def ItS (K : PySem.W.Frag) (M : Mp) (G : Hp) (hs : List Addr) (H : Hp) (J : It) (ds : List D) : Prop := ∀ (G2 : Hp) (hs2 : List Addr) (s2 : DS) (H2 : Hp), Stp M G hs H G2 hs2 H2 → Sim K M G2 hs2 s2 H2 → ∀ i : Nat,
  (ds[i]? = none → J.stop i H2) ∧ ∀ d, ds[i]? = some d → J.go i H2 ∧ ∀ x H', J.yld i H2 x H' → ∃ G', Stp M G2 hs2 H2 G' hs2 H' ∧ Sim K M G' hs2 s2 H' ∧ Rep K M G' hs2 d x
theorem ItC.s {G H : Hp} {hs : List Addr} {J : It} {ds : List D} (h : ItC K M G hs J ds) : ItS K M G hs H J ds := fun G2 hs2 s2 H2 S => h G2 hs2 s2 H2 S.gg S.hp
structure DI (M : Mp) (X : Cx) (W : WX) (tg e : Expr) (f : Env → DS → R (List D)) : Prop where
  ex : ∃ wi, PI X tg e wi ∧ ∀ (A : Anc) (σ : L2.St) (H G : Hp) (hs : List Addr) (own : Nat → Addr) (η : Env) (s : DS) (Q : It → Hp → Prop), Sm X.K M A σ H G hs own η s →
    RPost X.K M σ W G hs H (f η s) (fun ds G' hs' _ H' => ∀ J, ItC X.K M G' hs' J ds → Q J H') → wi σ H Q
structure DIS (M : Mp) (X : Cx) (W : WX) (tg e : Expr) (f : Env → DS → R (List D)) : Prop where
  ex : ∃ wi, PI X tg e wi ∧ ∀ (A : Anc) (σ : L2.St) (H G : Hp) (hs : List Addr) (own : Nat → Addr) (η : Env) (s : DS) (Q : It → Hp → Prop), Sm X.K M A σ H G hs own η s →
    RPost X.K M σ W G hs H (f η s) (fun ds G' hs' _ H' => ∀ J, ItS X.K M G' hs' H' J ds → Q J H') → wi σ H Q
theorem DI.s {tg e : Expr} {f : Env → DS → R (List D)} (h : DI M X W tg e f) : DIS M X W tg e f := by
  obtain ⟨wi, p, k⟩ := h.ex
  exact ⟨wi, p, fun A σ H G hs own η s Q I r => k A σ H G hs own η s Q I (r.mono fun ds G1 hs1 s1 H1 _ _ q J j => q J j.s)⟩
def lstO : D → Option (List D)
  | .lst l => some l
  | _ => none
def scrO : D → Option (List D)
  | .scr l => some (l.map D.int)
  | .lst l => some l
  | _ => none
def tupO : D → Option (List D)
  | .tup l => some l
  | _ => none
theorem itl_c {G : Hp} {hs : List Addr} {a : Addr} {vs : List V} {ds : List D} (h : ∀ G2 H2, Same G G2 → Same G2 H2 → SqL K H2 a vs) (hr : RepL K M G hs ds vs) : ItC K M G hs (Itl K a) ds := by
  intro G2 hs2 s2 H2 gg pp J2 i
  have hq := h G2 H2 gg J2.sub
  refine ⟨fun e => ⟨vs, hq, ?_⟩, fun d e => ?_⟩
  · rw [← hr.length]; exact List.getElem?_eq_none_iff.mp e
  · obtain ⟨v, e1, e2⟩ := hr.get e
    refine ⟨⟨vs, v, hq, e1⟩, fun x H' y => ?_⟩
    obtain ⟨rfl, y⟩ := y
    have z := y vs hq
    rw [e1] at z
    cases z
    exact ⟨G2, Stp.refl _ _ _ _, J2, e2.mono gg pp⟩
theorem itt_c {G : Hp} {hs : List Addr} {a : Addr} {vs : List V} {ds : List D} (h : SqT K G a vs) (hr : RepL K M G hs ds vs) : ItC K M G hs (Itt K a) ds := by
  intro G2 hs2 s2 H2 gg pp J2 i
  have hq := same_seqT J2.sub (same_seqT gg h)
  refine ⟨fun e => ⟨vs, hq, ?_⟩, fun d e => ?_⟩
  · rw [← hr.length]; exact List.getElem?_eq_none_iff.mp e
  · obtain ⟨v, e1, e2⟩ := hr.get e
    refine ⟨⟨vs, v, hq, e1⟩, fun x H' y => ?_⟩
    obtain ⟨rfl, y⟩ := y
    have z := y vs hq
    rw [e1] at z
    cases z
    exact ⟨G2, Stp.refl _ _ _ _, J2, e2.mono gg pp⟩
def iterD (o : D → Option (List D)) (f : Env → DS → R D) : Env → DS → R (List D) := fun η s => (f η s).bind fun d s1 => R.ofO (o d) s1
variable {tg e : Expr} {f : Env → DS → R D}
theorem di_list (h : DE M X W e f) : DI M X W tg e (iterD scrO f) := by
  obtain ⟨t, p, k⟩ := h.ex
  refine ⟨_, pi_list p, fun A σ H G hs own η s Q I r => ?_⟩
  refine k A σ H G hs own η s _ I (r.bind.mono fun d G1 hs1 s1 H1 S1 J1 q v hv => ?_)
  obtain ⟨ds, eo, q⟩ := q.ofO
  unfold scrO at eo
  split at eo
  · cases eo
    obtain ⟨a, rfl, hq⟩ := rep_scr.mp hv
    exact ⟨a, rfl, ⟨_, J1.sub.seq hq⟩, q G1 hs1 H1 (Stp.refl _ _ _ _) J1 _ (itl_c (fun G2 H2 gg sm => sm.seq (gg.seq hq)) (RepL.ints.mpr rfl))⟩
  · cases eo
    obtain ⟨a, vs, rfl, h1, h2⟩ := rep_lst.mp hv
    exact ⟨a, rfl, ⟨vs, SqL.of (J1.sub _ _ h1)⟩, q G1 hs1 H1 (Stp.refl _ _ _ _) J1 _ (itl_c (fun G2 H2 gg sm => SqL.of (sm _ _ (gg _ _ h1))) h2)⟩
  · cases eo
theorem di_tup (h : DE M X W e f) : DI M X W tg e (iterD tupO f) := by
  obtain ⟨t, p, k⟩ := h.ex
  refine ⟨_, pi_tup p, fun A σ H G hs own η s Q I r => ?_⟩
  refine k A σ H G hs own η s _ I (r.bind.mono fun d G1 hs1 s1 H1 S1 J1 q v hv => ?_)
  obtain ⟨ds, eo, q⟩ := q.ofO
  unfold tupO at eo
  split at eo
  · cases eo
    obtain ⟨a, vs, rfl, h1, h2⟩ := rep_tup hv
    exact ⟨a, rfl, ⟨vs, same_seqT J1.sub h1⟩, q G1 hs1 H1 (Stp.refl _ _ _ _) J1 _ (itt_c h1 h2)⟩
  · cases eo
/-- lo, lo + 1, .. -/
def rngL (lo : Int) : Nat → List D
  | 0 => []
  | n + 1 => .int lo :: rngL (lo + 1) n
theorem rngL_get : ∀ (n : Nat) (lo : Int) (i : Nat), (rngL lo n)[i]? = if i < n then some (.int (lo + i)) else none
  | 0, lo, i => by simp [rngL]
  | n + 1, lo, 0 => by simp [rngL]
  | n + 1, lo, i + 1 => by
    rw [rngL, List.getElem?_cons_succ, rngL_get n (lo + 1) i]
    have e : lo + 1 + (i : Int) = lo + ((i + 1 : Nat) : Int) := by omega
    rw [e]
    simp only [Nat.add_lt_add_iff_right]
theorem itr_c {G : Hp} {hs : List Addr} {lo : Int} {n : Nat} : ItC K M G hs (Itr lo n) (rngL lo n) := by
  intro G2 hs2 s2 H2 gg pp J2 i
  rw [rngL_get]
  refine ⟨fun e => ?_, fun d e => ?_⟩
  · split at e
    · cases e
    · show n ≤ i; omega
  · split at e
    · cases e
      rename_i hi
      refine ⟨hi, fun x H' y => ?_⟩
      obtain ⟨rfl, rfl⟩ := y
      exact ⟨G2, Stp.refl _ _ _ _, J2, rep_int.mpr rfl⟩
    · cases e
noncomputable def small62 (i : Int) : Bool := cl (-4611686018427387904 ≤ i) && cl (i < 4611686018427387904)
theorem small62_of {i : Int} (h : small62 i = true) : -(2 ^ 62) ≤ i ∧ i < 2 ^ 62 := by
  unfold small62 at h
  rw [Bool.and_eq_true, cl_iff, cl_iff] at h
  have p : (2 : Int) ^ 62 = 4611686018427387904 := by decide
  rw [p]
  exact h
noncomputable def rng1 : List D → Option (List D)
  | [.int j] => if small62 j = true then some (rngL 0 j.toNat) else none
  | _ => none
noncomputable def rng2 : List D → Option (List D)
  | [.int i, .int j] => if (small62 i && small62 j) = true then some (rngL i (j - i).toNat) else none
  | _ => none
def rngD (o : List D → Option (List D)) (g : Env → DS → R (List D)) : Env → DS → R (List D) := fun η s => (g η s).bind fun ds s1 => R.ofO (o ds) s1
theorem di_range1 {a : Expr} {g : Env → DS → R (List D)} {p pos : Pos} (hm : X.mg "range" = none) (ha : DA M X W [a] g) (hg : Gl X "range" := by rfl) (hs : starEach [a] X.env = [(false, eval a X.env)] := by rfl) : DI M X W tg (.Call (.Name "range" p) [a] [] pos) (rngD rng1 g) := by
  obtain ⟨t, pa, k⟩ := ha.ex
  refine ⟨_, pi_range1 hg hm pa hs, fun A σ H G hs own η s Q I r => ?_⟩
  refine k A σ H G hs own η s _ I (r.bind.mono fun ds G1 hs1 s1 H1 S1 J1 q vs hv => ?_)
  obtain ⟨xs, eo, q2⟩ := q.ofO
  clear q
  unfold rng1 at eo
  split at eo
  · split at eo
    · cases eo
      rename_i j hj
      rw [repL_cons] at hv
      obtain ⟨v, vr, rfl, h1, h2⟩ := hv
      rw [repL_nil] at h2
      rw [rep_int] at h1
      subst h1 h2
      exact ⟨j, rfl, (small62_of hj).1, (small62_of hj).2, q2 G1 hs1 H1 (Stp.refl _ _ _ _) J1 _ itr_c⟩
    · cases eo
  · cases eo
def forF (put : D → Env → Option Env) (body : Env → DS → F) : List D → Env → DS → F
  | [], η, s => .nx η s
  | d :: ds, η, s => match put d η with
    | none => .bad
    | some η1 => match body η1 s with
      | .nx η2 s2 => forF put body ds η2 s2
      | .ct η2 s2 => forF put body ds η2 s2
      | .bk η2 s2 => .nx η2 s2
      | r => r
def forB (fi : Env → DS → R (List D)) (put : D → Env → Option Env) (body : Env → DS → F) : Env → DS → F := fun η s => (fi η s).toF η fun ds s1 => forF put body ds η s1
end
end DL
set_option Elab.async false
set_option linter.all false
set_option maxRecDepth 100000
set_option maxHeartbeats 2000000
namespace DL
open PySem PySem.Spec PyProof.Rows L2
def wipeE (η : Env) : List Nat → Env
  | [] => η
  | v :: vs => (wipeE η vs).set v .no
theorem wipeE_len (η : Env) : ∀ vs, (wipeE η vs).length = η.length
  | [] => rfl
  | v :: vs => by unfold wipeE; rw [List.length_set, wipeE_len η vs]
theorem wipeE_get {η : Env} {j : Nat} {x : Sl} : ∀ {vs : List Nat}, (wipeE η vs)[j]? = some x → x ≠ .no → η[j]? = some x ∧ j ∉ vs
  | [], h, _ => ⟨h, List.not_mem_nil⟩
  | v :: vs, h, n => by
    unfold wipeE at h
    rcases set_get h with ⟨rfl, q⟩ | ⟨hj, q⟩
    · exact absurd q n
    · obtain ⟨h1, h2⟩ := wipeE_get q n
      exact ⟨h1, fun z => by
        rcases List.mem_cons.mp z with z | z
        · exact hj z
        · exact h2 z⟩
theorem wipe_eq {σ σ' : L2.St} : ∀ {vs is : List Nat}, Chg is (wipe σ vs) σ' → (∀ j ∈ is, j ∈ vs) → wipe σ' vs = wipe σ vs := by
  intro vs is h hs
  have key : ∀ (τ : L2.St) (ws : List Nat) (j : Nat), (wipe τ ws)[j]? = if j ∈ ws then (if j < τ.length then some none else none) else τ[j]? := by
    intro τ ws
    induction ws with
    | nil => intro j; simp [wipe]
    | cons w ws ih =>
      intro j
      unfold wipe
      by_cases hj : j = w
      · subst hj
        rw [if_pos List.mem_cons_self]
        by_cases hl : j < τ.length
        · rw [List.getElem?_set_self (by rw [wipe_length]; exact hl), if_pos hl]
        · rw [List.getElem?_eq_none (by rw [List.length_set, wipe_length]; omega), if_neg hl]
      · rw [List.getElem?_set_ne (Ne.symm hj), ih j]
        by_cases hm : j ∈ ws
        · rw [if_pos hm, if_pos (List.mem_cons_of_mem _ hm)]
        · rw [if_neg hm, if_neg (fun z => by
            rcases List.mem_cons.mp z with z | z
            · exact hj z
            · exact hm z)]
  have hl : σ'.length = σ.length := by rw [h.len, wipe_length]
  apply List.ext_getElem?
  intro j
  rw [key, key, hl]
  by_cases hm : j ∈ vs
  · rw [if_pos hm, if_pos hm]
  · rw [if_neg hm, if_neg hm, h.out j (fun z => hm (hs j z)), key, if_neg hm]
section
variable {M : Mp} {X : Cx} {W : WX} {K : PySem.W.Frag}
theorem Sm.wipe {A : Anc} {σ : L2.St} {H G : Hp} {hs : List Addr} {own : Nat → Addr} {η : Env} {s : DS} (I : Sm K M A σ H G hs own η s) (vs : List Nat) : Sm K M A (wipe σ vs) H G hs own (wipeE η vs) s :=
  ⟨I.sim, I.stp, fun i d e => by
    obtain ⟨h1, h2⟩ := wipeE_get e (fun z => by cases z)
    obtain ⟨v, k1, k2⟩ := I.pl i d h1
    exact ⟨v, by rw [wipe_out h2]; exact k1, k2⟩, fun i d e => by
    obtain ⟨h1, h2⟩ := wipeE_get e (fun z => by cases z)
    obtain ⟨k1, k2⟩ := I.ow i d h1
    exact ⟨by rw [wipe_out h2]; exact k1, k2⟩, fun i j d d' e1 e2 => I.inj i j d d' (wipeE_get e1 (fun z => by cases z)).1 (wipeE_get e2 (fun z => by cases z)).1, by rw [wipeE_len, wipe_length]; exact I.el, fun x d ex e => I.sf x d ex (wipeE_get e (fun z => by cases z)).1⟩
/-- an object that no one tracks is written -/
theorem Sim.updU {H G : Hp} {hs : List Addr} {s : DS} {p : Addr} {o : HO} (J : Sim K M G hs s H) (g : G p = none) (n : p ∉ hs) (t : ¬ inTab M p) (x : ∀ f, H p ≠ some (tb2 f)) : Sim K M G hs s (upd H p o) :=
  ⟨same_upd2 J.sub g, J.len, J.nd, J.hG, fun k a d e1 e2 => RepAt.upd (J.han k a d e1 e2) fun z => n (by rw [← z]; exact List.mem_of_getElem? e1), tabs_upd J.tab t x, J.tG⟩
def R.nx {α : Type} (r : R α) : R α := match r with
  | .ok a s => .ok a s
  | _ => .bad
def lcF (put : D → Env → Option Env) (ft : Env → DS → R Bool) (fe : Env → DS → R D) (η0 : Env) : List D → DS → R (List D)
  | [], s => .ok [] s
  | d :: ds, s => match put d η0 with
    | none => .bad
    | some η1 => (ft η1 s).nx.bind fun b s1 => if b = true then (fe η1 s1).nx.bind fun y s2 => (lcF put ft fe η0 ds s2).bind fun ys s3 => .ok (y :: ys) s3 else lcF put ft fe η0 ds s1
def lcD (fi : Env → DS → R (List D)) (put : D → Env → Option Env) (ft : Env → DS → R Bool) (fe : Env → DS → R D) (vs : List Nat) : Env → DS → R D := fun η s => (fi η s).bind fun ds s1 =>
  if ds.length ≤ 16777216 then (lcF put ft fe (wipeE η vs) ds s1).bind fun ys s2 => .ok (.lst ys) s2 else .bad
/-- no errors within -/
abbrev W0 : WX := fun _ _ _ _ => False
structure DTs (M : Mp) (X : Cx) (W : WX) (ifs : List Expr) (f : Env → DS → R Bool) : Prop where
  ex : ∃ t, PTs X ifs t ∧ TEx M X W t f
def yesT : Env → DS → R Bool := fun _ s => .ok true s
theorem dts_nil : DTs M X W [] yesT := ⟨_, pts_nil, fun A σ H G hs own η s Q I r => r G hs H (Stp.refl _ _ _ _) I.sim⟩
theorem dts_one {c : Expr} {f : Env → DS → R Bool} (h : DT M X W c f) : DTs M X W [c] f := by
  obtain ⟨t, p, h⟩ := h.ex
  exact ⟨t, pts_one p, h⟩
abbrev BC (X : Cx) (scope : Scope) (s : Shared) (H : Hp) (C : Addr) (cl : List (Str × Addr)) (fp : List Addr) : Cx := X.blk s H scope (compEnvC scope cl C X.env) fp
/-- .. the same meaning in every run of the block -/
theorem blk_e {scope : Scope} {elt : Expr} {fe : Env → DS → R D} (h : ∀ s H C cl fp, DE M (BC X scope s H C cl fp) W0 elt fe) : ∃ te : TE, (∀ s H C cl fp, PE (BC X scope s H C cl fp) elt te) ∧ EEx M X W0 te fe := by
  refine ⟨fun σ H Q => ∀ s H0 C cl fp, Classical.choose (h s H0 C cl fp).ex σ H Q, fun s H0 C cl fp => ⟨fun pins s1 σ H Q I hw => (Classical.choose_spec (h s H0 C cl fp).ex).1.run pins s1 σ H Q I (hw s H0 C cl fp)⟩, ?_⟩
  intro A σ H G hs own η s Q I r s0 H0 C cl fp
  exact (Classical.choose_spec (h s0 H0 C cl fp).ex).2 A σ H G hs own η s Q I r
theorem blk_t {scope : Scope} {ifs : List Expr} {ft : Env → DS → R Bool} (h : ∀ s H C cl fp, DTs M (BC X scope s H C cl fp) W0 ifs ft) : ∃ tt : TT, (∀ s H C cl fp, PTs (BC X scope s H C cl fp) ifs tt) ∧ TEx M X W0 tt ft := by
  refine ⟨fun σ H Q => ∀ s H0 C cl fp, Classical.choose (h s H0 C cl fp).ex σ H Q, fun s H0 C cl fp => ⟨fun pins s1 σ H Q I hw => (Classical.choose_spec (h s H0 C cl fp).ex).1.run pins s1 σ H Q I (hw s H0 C cl fp)⟩, ?_⟩
  intro A σ H G hs own η s Q I r s0 H0 C cl fp
  exact (Classical.choose_spec (h s0 H0 C cl fp).ex).2 A σ H G hs own η s Q I r
abbrev GEx (M : Mp) (X : Cx) (g : TG) (f : D → Env → Option Env) (is : List Nat) : Prop := ∀ (A : Anc) (σ : L2.St) (H G : Hp) (hs : List Addr) (own : Nat → Addr) (η η' : Env) (s : DS) (d : D) (v : V) (Q : L2.St → Hp → Prop), Sm X.K M A σ H G hs own η s → Rep X.K M G hs d v → f d η = some η' →
    (∀ σ', Sm X.K M A σ' H G hs own η' s → Chg is σ σ' → Q σ' H) → g v σ H Q
theorem blk_g {scope : Scope} {tg : Expr} {put : D → Env → Option Env} {is : List Nat} (h : ∀ s H C cl fp, DG M (BC X scope s H C cl fp) tg put is) : ∃ g : TG, (∀ s H C cl fp, PG (BC X scope s H C cl fp) tg g) ∧ GEx M X g put is := by
  refine ⟨fun v σ H Q => ∀ s H0 C cl fp, Classical.choose (h s H0 C cl fp).ex v σ H Q, fun s H0 C cl fp => ⟨fun pins s1 σ H v u Q I r hw => (Classical.choose_spec (h s H0 C cl fp).ex).1.run pins s1 σ H v u Q I r (hw s H0 C cl fp)⟩, ?_⟩
  intro A σ H G hs own η η' s d v Q I hr e k s0 H0 C cl fp
  exact (Classical.choose_spec (h s0 H0 C cl fp).ex).2 A σ H G hs own η η' s d v Q I hr e k
theorem lc_sem {tg iter : Expr} {wi : TI} {g : TG} {tt : TT} {te : TE} {vs is : List Nat} {fi : Env → DS → R (List D)} {put : D → Env → Option Env} {ft : Env → DS → R Bool} {fe : Env → DS → R D}
    (ki : ∀ (A : Anc) (σ : L2.St) (H G : Hp) (hs : List Addr) (own : Nat → Addr) (η : Env) (s : DS) (Q : It → Hp → Prop), Sm X.K M A σ H G hs own η s → RPost X.K M σ W G hs H (fi η s) (fun ds G' hs' _ H' => ∀ J, ItS X.K M G' hs' H' J ds → Q J H') → wi σ H Q)
    (kg : GEx M X g put is) (kt : TEx M X W0 tt ft) (ke : EEx M X W0 te fe) (hv : (is.all fun j => vs.contains j) = true) : FEx M X W (tLc wi g tt te vs) (lcD fi put ft fe vs) := by
  intro A σ H0 G0 hs0 own η s0 Q I0 hp
  refine ki A σ H0 G0 hs0 own η s0 _ I0 (hp.bind.mono fun ds G1 hs1 s1 H1 S1 J1 h1 J hJ D0 hD => ?_)
  split at h1
  case isFalse => exact h1.elim
  rename_i hlen
  have I1 := I0.step S1 J1
  have his : ∀ j ∈ is, j ∈ vs := fun j hj => List.contains_iff_mem.mp (List.all_eq_true.mp hv j hj)
  obtain ⟨fD1, fD2, fD3⟩ := J1.free hD
  refine ⟨fun i m H => ∃ G hs s acc done, Stp M G1 hs1 H1 G hs H ∧ Sim X.K M G hs s H ∧ H D0 = some (.lst acc) ∧ G D0 = none ∧ D0 ∉ hs ∧ acc.length ≤ i ∧ i ≤ ds.length ∧ m = ds.length - i ∧ RepL X.K M G hs done acc ∧
    RPost X.K M σ W G1 hs1 H1 (lcF put ft fe (wipeE η vs) (ds.drop i) s) (fun ys G' hs' s' H' => ∀ p, Nt H0 p → Fr1 X.K M G' hs' H' (.lst (done ++ ys)) p → Q (.ref p) H'),
    ⟨ds.length, G1, hs1, s1, [], [], Stp.extH (fun a u e => by rw [upd_ne (ne_of_none e hD)]; exact e), J1.extH (fun a u e => by rw [upd_ne (ne_of_none e hD)]; exact e), upd_same, fD1, fD2, Nat.le_refl _, Nat.zero_le _, rfl, repL_nil.mpr rfl, ?_⟩, ?_⟩
  · rw [List.drop_zero]
    refine RPost.mono h1.bind fun ys G' hs' s' H' S' J' k p => ?_
    exact k G' hs' H' (Stp.refl _ _ _ _) J' p
  rintro i m H ⟨G, hs, s, acc, done, S, J2, eD, gD, nD, ha, hi, rfl, hdone, hr⟩
  obtain ⟨stop, go⟩ := hJ G hs s H S J2 i
  cases q : ds[i]? with
  | none =>
    have hn : ds.drop i = [] := List.drop_eq_nil_of_le (List.getElem?_eq_none_iff.mp q)
    rw [hn] at hr
    refine .inl ⟨stop q, ?_⟩
    refine hr G hs H S J2 D0 (S1.dm _ (nt_none hD)) ⟨⟨acc, eD, by rw [List.append_nil]; exact hdone⟩, gD, nD, fD3⟩
  | some d =>
    have hlt : i < ds.length := (List.getElem?_eq_some_iff.mp q).1
    obtain ⟨go1, go2⟩ := go d q
    have hd : ds.drop i = d :: ds.drop (i + 1) := by
      rw [List.drop_eq_getElem_cons hlt]
      congr 1
      rw [List.getElem?_eq_getElem hlt] at q
      exact Option.some.inj q
    rw [hd, lcF] at hr
    refine .inr ⟨go1, _, fun H' h => ⟨ds.length - (i + 1), by omega, h⟩, fun x H2 y => ?_⟩
    obtain ⟨G2, S2, J3, hx⟩ := go2 x H2 y
    have a2 := S2.away eD nD gD (fun ps z => by cases z)
    have eD2 := S2.kp _ _ eD nD (fun ps z => by cases z)
    have SS2 := S.trans S2
    split at hr
    · exact hr.elim
    rename_i η1 e1
    have I2 := (I1.step SS2 J3).wipe vs
    refine kg A _ H2 G2 hs own _ η1 s d x _ I2 hx e1 fun σ2 I3 chg => ⟨wipe_eq chg his, ?_⟩
    refine kt A σ2 H2 G2 hs own η1 s _ I3 ?_
    cases qt : ft η1 s with
    | ex c p s' => rw [qt] at hr; exact hr.elim
    | bad => rw [qt] at hr; exact hr.elim
    | ok b s3 =>
      rw [qt] at hr
      intro G3 hs3 H3 S3 J4
      have a3 := S3.away eD2 nD a2.1 (fun ps z => by cases z)
      have eD3 := S3.kp _ _ eD2 nD (fun ps z => by cases z)
      have SS3 := SS2.trans S3
      have hr2 : RPost X.K M σ W G1 hs1 H1 (if b = true then (fe η1 s3).nx.bind fun y s2 => (lcF put ft fe (wipeE η vs) (ds.drop (i + 1)) s2).bind fun ys s3 => .ok (y :: ys) s3 else lcF put ft fe (wipeE η vs) (ds.drop (i + 1)) s3) _ := hr
      cases b with
      | false =>
        rw [if_neg Bool.false_ne_true] at hr2 ⊢
        exact ⟨G3, hs3, s3, acc, done, SS3, J4, eD3, a3.1, a3.2, by omega, hlt, rfl, hdone.mono (S2.gg.trans S3.gg) (S2.hp.trans S3.hp), hr2⟩
      | true =>
        rw [if_pos rfl] at hr2 ⊢
        have I4 := I3.step S3 J4
        refine ke A σ2 H3 G3 hs3 own η1 s3 _ I4 ?_
        cases qe : fe η1 s3 with
        | ex c p s' => rw [qe] at hr2; exact hr2.elim
        | bad => rw [qe] at hr2; exact hr2.elim
        | ok z s4 =>
          rw [qe] at hr2
          intro G4 hs4 H4 S4 J5 v hv
          have a4 := S4.away eD3 a3.2 a3.1 (fun ps z => by cases z)
          have eD4 := S4.kp _ _ eD3 a3.2 (fun ps z => by cases z)
          have SS4 := SS3.trans S4
          refine ⟨acc, eD4, by rw [line_]; omega, G4, hs4, s4, acc ++ [v], done ++ [z], ⟨SS4.gg, SS4.fr, SS4.hp, SS4.hf, fun a u e n t => ?_, fun a e => ?_⟩, J5.updU a4.1 a4.2 fD3 (by rw [eD4]; exact fun f z => by cases f <;> cases z), upd_same, a4.1, a4.2, by rw [List.length_append]; simp; omega, hlt, rfl, ?_, ?_⟩
          · rw [upd_ne (ne_of_none e hD)]
            exact SS4.kp a u e n t
          · by_cases z : a = D0
            · rw [z]; exact nt_none hD
            · exact SS4.dm a fun u q => e u (by rw [upd_ne z]; exact q)
          · exact (hdone.mono ((S2.gg.trans S3.gg).trans S4.gg) ((S2.hp.trans S3.hp).trans S4.hp)).append (repL_cons.mpr ⟨v, [], rfl, hv, repL_nil.mpr rfl⟩)
          · have hr3 : RPost X.K M σ W G1 hs1 H1 ((lcF put ft fe (wipeE η vs) (ds.drop (i + 1)) s4).bind fun ys s3 => .ok (z :: ys) s3) _ := hr2
            refine RPost.mono hr3.bind fun ys G' hs' s' H' S' J' k p hp0 fr => ?_
            refine k G' hs' H' (Stp.refl _ _ _ _) J' p hp0 ?_
            rw [List.append_assoc] at fr
            exact fr
theorem df_lc {elt tg iter : Expr} {ifs : List Expr} {scope : Scope} {own : List (Str × Nat)} {pos : Pos} {is : List Nat} {fi : Env → DS → R (List D)} {put : D → Env → Option Env} {ft : Env → DS → R Bool} {fe : Env → DS → R D} (hc : X.calm = true) (hN : X.N.Nodup) (hi : DIS M X W tg iter fi) (ok : blkC X.N X.env.scope scope own = true)
    (hg : ∀ s H C cl fp, DG M (BC X scope s H C cl fp) tg put is) (ht : ∀ s H C cl fp, DTs M (BC X scope s H C cl fp) W0 ifs ft) (he : ∀ s H C cl fp, DE M (BC X scope s H C cl fp) W0 elt fe) (hv : (is.all fun j => (own.map (·.2)).contains j) = true := by rfl) (hs : ∀ x, foldedSetIterable iter X.env x = pure x := by intro _; rfl) :
    DF M X W (.ListComp elt [⟨tg, iter, ifs, 0⟩] scope pos) (lcD fi put ft fe (own.map (·.2))) := by
  obtain ⟨wi, pi, ki⟩ := hi.ex
  obtain ⟨g, pg, kg⟩ := blk_g hg
  obtain ⟨tt, pt, kt⟩ := blk_t ht
  obtain ⟨te, pe, ke⟩ := blk_e he
  exact ⟨_, pe_lc hc hN pi (blkOk_by ok) pg pt pe hs, lc_sem (tg := tg) (iter := iter) ki kg kt ke hv⟩
end
end DL
set_option Elab.async false
set_option linter.all false
set_option maxRecDepth 100000
set_option maxHeartbeats 2000000
namespace DL
open PySem PySem.Spec PyProof.Rows L2
abbrev WofE (E : XK) : WX := fun cls dx _ H => E cls dx H
/-- f(ds) at the state s gives what g says -/
def SpD (K : PySem.W.Frag) (M : Mp) (n : Nat) (g : List D → DS → R D) : Sp := fun vs H Q E => ∃ (G : Hp) (hs : List Addr) (s : DS) (ds : List D), Sim K M G hs s H ∧ RepL K M G hs ds vs ∧ ds.length = n ∧
  RPost K M [] (WofE E) G hs H (g ds s) (fun d G' hs' _ H' => ∀ v, Rep K M G' hs' d v → Q v H')
/-- C's __init__ makes of a new instance what g says -/
def SpI (K : PySem.W.Frag) (M : Mp) (c n : Nat) (g : List D → DS → R D) : Sp := fun vs H Q E => ∃ (G : Hp) (hs : List Addr) (s : DS) (ds : List D) (x dx : Addr) (H0 : Hp) (vs' : List V), vs = .ref x :: vs' ∧ H0 x = none ∧ H0 dx = none ∧ dx ≠ x ∧ H = upd (upd H0 dx (.own x)) x (.ins (M.cls c) dx []) ∧
  Sim K M G hs s H0 ∧ RepL K M G hs ds vs' ∧ ds.length + 1 = n ∧ RPost K M [] (WofE E) G hs H0 (g ds s) (fun d G' hs' _ H' => Fr1 K M G' hs' H' d x → Q .non H')
def padE (n : Nat) (ds : List Sl) : Env := ds ++ List.replicate (n - ds.length) .no
def fnD (n : Nat) (body : Env → DS → F) : List D → DS → R D := fun ds s => match body (padE n (ds.map .v)) s with
  | .nx _ s1 => .ok .non s1
  | .rt d s1 => .ok d s1
  | .ex c p _ s1 => .ex c p s1
  | _ => .bad
def inD (c n : Nat) (body : Env → DS → F) : List D → DS → R D := fun ds s => match body (padE n (.o (.obj c []) :: ds.map .v)) s with
  | .nx η s1 => (match η[0]? with
    | some (Sl.o d) => .ok d s1
    | _ => .bad)
  | .ex c p _ s1 => .ex c p s1
  | _ => .bad
section
variable {M : Mp} {X : Cx} {W : WX} {K : PySem.W.Frag} {P : Program} {w : World} {mg : Str → Option Value} {base : Heap}
theorem pad_get {n : Nat} {l : List Sl} {i : Nat} {x : Sl} (h : (padE n l)[i]? = some x) (hx : x ≠ .no) : l[i]? = some x := by
  unfold padE at h
  by_cases hi : i < l.length
  · rwa [List.getElem?_append_left hi] at h
  · rw [List.getElem?_append_right (by omega), List.getElem?_replicate] at h
    split at h
    · cases h; exact absurd rfl hx
    · cases h
theorem start_get {N : List Str} {vs : List V} {i : Nat} {v : V} (h : vs[i]? = some v) : (L2.start N vs)[i]? = some (some v) := by
  unfold L2.start
  rw [List.getElem?_append_left (by rw [List.length_map]; exact (List.getElem?_eq_some_iff.mp h).1), List.getElem?_map, h]
  rfl
theorem start_len {N : List Str} {vs : List V} : (L2.start N vs).length = vs.length + (N.length - vs.length) := by
  unfold L2.start
  rw [List.length_append, List.length_map, List.length_replicate]
theorem fnD_post {A : Anc} {E : XK} {Q : VK} {n : Nat} {body : Env → DS → F} {ds : List D} {s : DS} (hp : RPost K M [] (WofE E) A.G A.hs A.H (fnD n body ds s) (fun d G' hs' _ H' => ∀ v, Rep K M G' hs' d v → Q v H')) :
    FPost K M A (WofE E) { nx := fun _ H' => Q .non H', rt := Q } (body (padE n (ds.map .v)) s) := by
  unfold fnD at hp
  split at hp
  · rename_i e
    rw [e]
    exact fun σ H G hs own I => hp G hs H I.stp I.sim .non (rep_non.mpr rfl)
  · rename_i e
    rw [e]
    exact fun H G hs v S J r => hp G hs H S J v r
  · rename_i e
    rw [e]
    exact fun σ H G hs own cls dx I x => hp G hs H cls dx I.stp I.sim x
  · exact hp.elim
end
end DL
set_option Elab.async false
set_option linter.all false
set_option maxRecDepth 100000
set_option maxHeartbeats 2000000
namespace DL
open PySem PySem.Spec PyProof.Rows L2
section
variable {M : Mp} {X : Cx} {W : WX} {x m : Str} {e o : Expr} {es : List Expr} {p pos apos : Pos} {fa : Env → DS → R (List D)} {fo : Env → DS → R D}
def callD (g : List D → DS → R D) (fa : Env → DS → R (List D)) : Env → DS → R D := fun η s => (fa η s).bind fun ds s1 => g ds s1
def gateD (n : Nat) (g : List D → DS → R D) : List D → DS → R D := fun ds s => if ds.length = n then g ds s else .bad
theorem RPost.sig {K : PySem.W.Frag} {σ σ' : L2.St} {G H : Hp} {hs : List Addr} {α : Type} {r : R α} {E : XK} {k : α → Hp → List Addr → DS → Hp → Prop} (hE : ∀ c d H', W c d σ H' → E c d H') (h : RPost K M σ W G hs H r k) : RPost K M σ' (WofE E) G hs H r k := by
  cases r with
  | ok a s => exact h
  | ex c p s => exact fun G' hs' H' cls dx S J x => hE _ _ _ (h G' hs' H' cls dx S J x)
  | bad => exact h
theorem spd_of {K : PySem.W.Frag} {σ : L2.St} {G H : Hp} {hs : List Addr} {s : DS} {ds : List D} {vs : List V} {n : Nat} {g : List D → DS → R D} {Q : VK} {E : XK} (hE : ∀ c d H', W c d σ H' → E c d H') (J : Sim K M G hs s H) (r : RepL K M G hs ds vs)
    (h : RPost K M σ W G hs H (gateD n g ds s) (fun d G' hs' _ H' => ∀ v, Rep K M G' hs' d v → Q v H')) : SpD K M n g vs H Q E := by
  unfold gateD at h
  split at h
  · rename_i hl
    exact ⟨G, hs, s, ds, J, r, hl, h.sig hE⟩
  · exact h.elim
theorem de_call {k : Nat} {f : Addr} {fd : FuncData} {ps : List Str} {n : Nat} {g : List D → DS → R D} (F : FnOk X.prog X.w X.K X.mg X.base (L2.CX X.prog X.w) k f fd ps (SpD X.K M n g)) (hb : Binds X.K fd ps []) (hk : PySem.W.keepIn X.K (.ref f) = true) (hm : X.mg x = some (.ref f)) (hr : Room k X.A) (tk : Takes X W) (ha : DA M X W (e :: es) fa)
    (hg : Gl X x := by rfl) (hdb : (x == ("__debug__" : Str)) = false := by decide) (he : starEach (e :: es) X.env = (false, eval e X.env) :: starEach es X.env := by rfl) (hpl : (backTo pos (starEach es X.env)).any (·.1) = false := by rfl) :
    DE M X W (.Call (.Name x p) (e :: es) [] pos) (callD (gateD n g) fa) := by
  obtain ⟨t, pt, h⟩ := ha.ex
  refine ⟨_, pe_callS F hr hg hm hk hb (fun σ => passAt tk σ) pt hdb he hpl, fun A σ H G hs own η s Q I hp => ?_⟩
  exact h A σ H G hs own η s _ I (hp.bind.mono fun ds G1 hs1 s1 H1 S1 J1 h1 vs hvs => spd_of (fun _ _ _ z => z) J1 hvs h1)
/-- W does not look at the names -/
abbrev Flat (W : WX) : Prop := ∀ c d σ σ' H, W c d σ H → W c d σ' H
abbrev WU (W : WX) : XK := fun c d H => ∃ σ, W c d σ H
def isC (c : Nat) : D → Bool
  | .obj c' _ => c' == c
  | _ => false
def methD (c : Nat) (g : List D → DS → R D) (fo : Env → DS → R D) (fa : Env → DS → R (List D)) : Env → DS → R D := fun η s => (fo η s).bind fun o s1 => if isC c (deref s1 o) = true then (fa η s1).bind fun ds s2 => g (o :: ds) s2 else .bad
theorem isC_at {K : PySem.W.Frag} {G H : Hp} {hs : List Addr} {s : DS} {d : D} {v : V} {c : Nat} (J : Sim K M G hs s H) (hm : (M.flds c).contains m = false) (h : Rep K M G hs d v) (e : isC c (deref s d) = true) : ∃ a dx fs, v = .ref a ∧ H a = some (.ins (M.cls c) dx fs) ∧ fs.lookup m = none := by
  have nl : ∀ {fs : List (Str × V)}, m ∉ fs.map (·.1) → fs.lookup m = none := fun {fs} => by
    induction fs with
    | nil => intro _; rfl
    | cons q fs ih =>
      intro z
      rw [List.map_cons, List.mem_cons, not_or] at z
      obtain ⟨g, w⟩ := q
      have hne : (m == g) = false := by simpa using z.1
      rw [List.lookup_cons, hne]
      exact ih z.2
  have hm' : m ∉ M.flds c := fun z => by
    rw [List.contains_iff_mem.mpr z] at hm; cases hm
  rcases (BV.read J (.inl h)) with q | ⟨a, rfl, q⟩
  · generalize deref s d = d2 at e q
    unfold isC at e
    split at e
    · rename_i c' ds
      have hc : c' = c := by simpa using e
      subst hc
      obtain ⟨a, dx, fs, rfl, h1, h2, h3⟩ := rep_obj.mp q
      exact ⟨a, dx, fs, rfl, J.sub _ _ h1, nl (by rw [h2]; exact hm')⟩
    · cases e
  · generalize deref s d = d2 at e q
    unfold isC at e
    split at e
    · rename_i c' ds
      have hc : c' = c := by simpa using e
      subst hc
      obtain ⟨dx, fs, h1, h2, h3⟩ := q
      exact ⟨a, dx, fs, rfl, h1, nl (by rw [h2]; exact fun z => hm' (List.mem_of_mem_take z))⟩
    · cases e
end
end DL
set_option Elab.async false
set_option linter.all false
set_option maxRecDepth 100000
set_option maxHeartbeats 2000000
namespace DL
open PySem PySem.Spec PyProof.Rows L2
/-- the answers, clause by clause -/
def ToldW (K : PySem.W.Frag) (M : Mp) (Q : VK) : List (Nat × Str) → XK
  | [] => fun _ _ _ => False
  | (c, r) :: l => fun cls d H => ∃ b, PySem.W.exmOne K cls (.ref (M.exc c)) = some b ∧ (b = true → Q (.str r) H) ∧ (b = false → ToldW K M Q l cls d H)
inductive HdT (sg : Scope) (mg : Str → Option Value) (M : Mp) : List ExceptHandler → List (Nat × Str) → Prop
  | nil : HdT sg mg M [] []
  | cons {e ret : Str} {c j : Nat} {p4 p5 p6 p7 : Pos} {hds : List ExceptHandler} {l : List (Nat × Str)} (h1 : sg.names.lookup e = some .globalImplicit) (h2 : mg e = some (.ref (M.exc c))) (h3 : (e == ("__debug__" : Str)) = false) (r : HdT sg mg M hds l) :
      HdT sg mg M (.ExceptHandler (some (.Name e p4)) none [.Return (some (.Constant (.str ret) j p5)) p6] p7 :: hds) ((c, ret) :: l)
def hdl (M : Mp) : List (Nat × Str) → List (Value × (Addr → Value → Option Addr → TS))
  | [] => []
  | (c, r) :: l => (.ref (M.exc c), fun _ _ _ D _ H => D.rt (.str r) H) :: hdl M l
section
variable {M : Mp} {X : Cx} {W : WX}
theorem hdsOk {sg : Scope} (hsc : X.env.scope = sg) : ∀ {hds : List ExceptHandler} {l : List (Nat × Str)}, HdT sg X.mg M hds l → HdsOk X hds (hdl M l)
  | _, _, .nil => .nil
  | _, _, .cons h1 h2 h3 r => .cons ⟨by subst hsc; exact h1, h3, .inl h2⟩ (fun a oe cls d pn _ _ => pss_one (ps_ret pe_str)) (hdsOk hsc r)
theorem many_of {K : PySem.W.Frag} {D : Ends} {cls : Value} {d : Option Addr} {σ : L2.St} {H : Hp} : ∀ {l : List (Nat × Str)}, ToldW K M D.rt l cls d H → wMany K (fun _ _ _ _ => False) D (hdl M l) cls d σ H
  | [], h => h
  | (c, r) :: l, ⟨b, h1, h2, h3⟩ => ⟨b, h1, fun hb a _ => h2 hb, fun hb => many_of (h3 hb)⟩
theorem told_many {Ng : List Str} {x a q : Str} {sg : Scope} {g : Addr} {cdg : Value} {p1 p2 p3 p8 : Pos} {h₀ : ExceptHandler} {hds : List ExceptHandler} {l : List (Nat × Str)} (hh : HdT sg X.mg M (h₀ :: hds) l) (h0 : ∀ f : Addr, (L2.start Ng [V.ref f])[0]? = some (some (V.ref f))) :
    LamX.GivesTo X Ng x sg g cdg [.Try [.Return (some (.Call (.Name a p1) [] [] p2)) p3] (h₀ :: hds) [] [] p8] a q (fun tl H Q => tl (ToldW X.K M Q l) H Q) := by
  intro f c' s H Q tl act hc h
  refine ⟨_, pss_one (ps_try_many (X := (cxOf C8.CX0 X.prog X.w X.K X.mg X.base Ng x sg g cdg X.A X.stack s H C8.E0).nox) (Wout := fun _ _ _ _ => False) (l := hdl M l)
      (tb := fun W D σ H => ∃ Ech : XK, (∀ cls d σ' H', Ech cls d H' → W cls d σ' H') ∧ σ[0]? = some (some (.ref f)) ∧ H c' = some (LamX.CodeO c' q) ∧ tl Ech H D.rt)
      rfl rfl LamX.takes0 (fun W pn xe tk _ => ?_) (hdsOk (sg := sg) rfl hh)), ?_⟩
  · refine ⟨fun pins s' σ H' D I h' => ?_⟩
    obtain ⟨Ech, hW, h1, h2, h3⟩ := h'
    exact (pss_one (ps_ret (pos := p3) (act W pn xe Ech p1 p2 tk hW))).run pins s' σ H' D I ⟨h1, h2, h3⟩
  · exact ⟨ToldW X.K M Q l, fun cls d σ' H' z => many_of z, h0 f, hc, h⟩
def toldD (l : List (Nat × Str)) (fb : Env → DS → R D) : Env → DS → R D := fun η s => match fb η s with
  | .ok d s1 => .ok d s1
  | .ex c _ s1 => (match l.lookup c with
    | some r => .ok (.str r) s1
    | none => .bad)
  | .bad => .bad
theorem toldW_of {K : PySem.W.Frag} {Q : VK} {c : Nat} {r : Str} {dx : Option Addr} {H : Hp} (hQ : Q (.str r) H) : ∀ {l : List (Nat × Str)}, (∀ p ∈ l, PySem.W.exmOne K (.ref (M.exc c)) (.ref (M.exc p.1)) = some (c == p.1)) → l.lookup c = some r → ToldW K M Q l (.ref (M.exc c)) dx H
  | [], _, e => by simp at e
  | (c', r') :: l, hx, e => by
    refine ⟨c == c', hx (c', r') List.mem_cons_self, fun hb => ?_, fun hb => ?_⟩
    · rw [List.lookup_cons, hb] at e
      cases e
      exact hQ
    · rw [List.lookup_cons, hb] at e
      exact toldW_of hQ (fun p hp => hx p (List.mem_cons_of_mem _ hp)) e
theorem extN_step {K : PySem.W.Frag} {G H H1 : Hp} {hs : List Addr} {s : DS} (J : Sim K M G hs s H) (e : LamX.ExtN H H1) (t : TabsX M.tabs H1) : Stp M G hs H G hs H1 ∧ Sim K M G hs s H1 := by
  refine ⟨⟨fun _ _ h => h, fun _ _ h => .inl h, Pre.refl _, fun _ h => .inl h, fun a o h _ n => e a o h n, fun a h o q => ?_⟩, ⟨fun a o h => e a o (J.sub a o h) (J.tG a o h), J.len, J.nd, J.hG, fun k a d e1 e2 => ?_, t, J.tG⟩⟩
  · cases o with
    | tbl ps => exact ⟨ps, rfl⟩
    | _ => exact h _ (e a _ q fun ps z => by cases z)
  · refine (J.han k a d e1 e2).mono (fun _ _ z => z) (Pre.refl _) ?_
    obtain ⟨o, h1, n⟩ := (J.han k a d e1 e2).some
    rw [h1, e a o h1 n]
theorem RPost.toldK {K : PySem.W.Frag} {σ : L2.St} {G H : Hp} {hs : List Addr} {s : DS} {η : Env} {Q : VK} {l : List (Nat × Str)} {fb : Env → DS → R D} (hx : ∀ p ∈ l, ∀ q ∈ l, PySem.W.exmOne K (.ref (M.exc p.1)) (.ref (M.exc q.1)) = some (p.1 == q.1))
    (h : RPost K M σ W G hs H (toldD l fb η s) (fun d G' hs' _ H' => ∀ v, Rep K M G' hs' d v → Q v H')) : RPost K M σ (WofE (ToldW K M Q l)) G hs H (fb η s) (fun d G' hs' _ H' => ∀ v, Rep K M G' hs' d v → Q v H') := by
  unfold toldD at h
  cases e : fb η s with
  | ok d s1 => rw [e] at h; exact h
  | bad => rw [e] at h; exact h
  | ex c p s1 =>
    rw [e] at h
    dsimp only at h
    split at h
    · rename_i r hr
      intro G' hs' H' cls dx S J x
      obtain ⟨rfl, _⟩ := x
      have hm : (c, r) ∈ l := by
        clear h hx
        induction l with
        | nil => cases hr
        | cons p l ih =>
          obtain ⟨c', r'⟩ := p
          rw [List.lookup_cons] at hr
          split at hr
          · rename_i hc
            cases hr
            have : c = c' := by simpa using hc
            rw [this]
            exact List.mem_cons_self
          · exact List.mem_cons_of_mem _ (ih hr)
      exact toldW_of (h G' hs' H' S J _ (rep_str.mpr rfl)) (fun p hp => hx _ hm p hp) hr
    · exact h.elim
theorem lam_body {k : Nat} {scope : Scope} {body : Expr} {fb : Env → DS → R D} (h : ∀ (A : Around) (outer : List PySem.Env) (s : Shared) (H : Hp) (E : XK) (f c' : Addr), Room k (A.deeper (LamX.lamEnv X scope s.heap.objs.size f c')) → DE M (LamX.lamCx X A outer s H E scope f c') (WofE E) body fb) :
    ∃ t : XK → TE, (∀ (A : Around) (outer : List PySem.Env) (s : Shared) (H : Hp) (E : XK) (f c' : Addr), Room k (A.deeper (LamX.lamEnv X scope s.heap.objs.size f c')) → PE (LamX.lamCx X A outer s H E scope f c') body (t E)) ∧ ∀ E, EEx M X (WofE E) (t E) fb := by
  refine ⟨fun E σ H Q => ∀ A outer s H0 f c' hr, Classical.choose (h A outer s H0 E f c' hr).ex σ H Q, fun A outer s H0 E f c' hr => ⟨fun pins s1 σ H Q I hw => (Classical.choose_spec (h A outer s H0 E f c' hr).ex).1.run pins s1 σ H Q I (hw A outer s H0 f c' hr)⟩, ?_⟩
  intro E A σ H G hs own η s Q I r A2 outer s0 H0 f c' hr
  exact (Classical.choose_spec (h A2 outer s0 H0 E f c' hr).ex).2 A σ H G hs own η s Q I r
theorem de_told {x a : Str} {g c P : Addr} {k : Nat} {st : Stmt} {fd : FuncData} {Ng : List Str} {params : Arguments} {body : Expr} {scope : Scope} {p lpos pos p1 p2 p3 p8 : Pos} {h₀ : ExceptHandler} {hds : List ExceptHandler} {l : List (Nat × Str)} {fb : Env → DS → R D}
    (Fu : Fun X.K x x st g fd) (hb : L2.Binds X.K fd [a] []) (Sg : FnScope Ng [a] (defScope st)) (hbd : defBody st = [.Try [.Return (some (.Call (.Name a p1) [] [] p2)) p3] (h₀ :: hds) [] [] p8])
    (hh : HdT (defScope st) X.mg M (h₀ :: hds) l) (hx : ∀ p ∈ l, ∀ q ∈ l, PySem.W.exmOne X.K (.ref (M.exc p.1)) (.ref (M.exc q.1)) = some (p.1 == q.1)) (hNg : Ng[0]? = some a) (hva : Vis (defScope st) a)
    (TB : LamX.TabB X.base X.mg c P) (hcode : X.env.code = .ref c) (hmT : HasT M.tabs P (X.env.qual ++ "<lambda>") lpos) (hr : Room (k + 2) X.A) (hm : X.mg x = some (.ref g))
    (hbody : ∀ (A : Around) (outer : List PySem.Env) (s : Shared) (H : Hp) (E : XK) (f c' : Addr), Room k (A.deeper (LamX.lamEnv X scope s.heap.objs.size f c')) → DE M (LamX.lamCx X A outer s H E scope f c') (WofE E) body fb)
    (hg : Gl X x := by rfl) (L : LamX.LamS X.env.scope scope := by exact LamX.lamS_by (by decide +kernel)) (hdef : defaultsOf params X.env = ([], []) := by rfl)
    (hbind : ∀ (q : Str) (cl : List (Str × Addr)) (pm cv ctv : Value), bindArgs (PySem.W.kla_fn "<lambda>" q params body scope cl pm cv ctv) ⟨[], []⟩ = pure [] := by intros; rfl)
    (hdb : (x == ("__debug__" : Str)) = false := by decide) (hd : (a == ("__debug__" : Str)) = false := by decide) (hcd : (a == ("__classdict__" : Str)) = false := by decide) :
    DE M X W (.Call (.Name x p) [.Lambda params body scope lpos] [] pos) (toldD l fb) := by
  obtain ⟨t, pt, kt⟩ := lam_body hbody
  obtain ⟨⟨oc, od, kV, doc, pm, an, cdv, ct, osl, rfl, lk, hcd2⟩, kp⟩ := Fu
  refine ⟨_, pe_lamN (T := M.tabs) (TT := fun tl H Q => tl (ToldW X.K M Q l) H Q) (t := t) hg hm kp lk hcd2 hb Sg hNg hva (hbd ▸ told_many hh fun f => start_get rfl) TB hcode hmT hr L hdef hbind pt hdb hd hcd, fun A σ H G hs own η s Q I hp => ?_⟩
  · refine ⟨I.sim.tab, fun H1 eN T1 => ?_⟩
    obtain ⟨S1, J1⟩ := extN_step I.sim eN T1
    refine kt _ A σ H1 G hs own η s _ (I.step S1 J1) ?_
    have q := (RPost.step S1 hp).toldK hx
    cases e : fb η s with
    | ok d s1 => rw [e] at q; exact q
    | bad => rw [e] at q; exact q
    | ex c p s1 => rw [e] at q; exact q
end
end DL
set_option Elab.async false
set_option linter.all false
set_option maxRecDepth 100000
set_option maxHeartbeats 2000000
namespace DL
open PySem PySem.Spec PyProof.Rows L2
def FrL (K : PySem.W.Frag) (M : Mp) (G : Hp) (hs : List Addr) (H0 H : Hp) : List Sl → List V → List Addr → Prop
  | [], vs, ps => vs = [] ∧ ps = []
  | .v d :: r, vs, ps => ∃ v vr, vs = v :: vr ∧ Rep K M G hs d v ∧ FrL K M G hs H0 H r vr ps
  | .o d :: r, vs, ps => ∃ p vr pr, vs = .ref p :: vr ∧ ps = p :: pr ∧ Fr1 K M G hs H d p ∧ Nt H0 p ∧ p ∉ pr ∧ FrL K M G hs H0 H r vr pr
  | .no :: _, _, _ => False
section
variable {M : Mp} {X : Cx} {W : WX} {K : PySem.W.Frag} {G G' H H' H0 H1 : Hp} {hs hs' : List Addr}
theorem Fr1.step {d : D} {p : Addr} (h : Fr1 K M G hs H d p) (S : Stp M G hs H G' hs' H') : Fr1 K M G' hs' H' d p := by
  obtain ⟨o, e, no⟩ := h.at_.some
  obtain ⟨a1, a2⟩ := S.away e h.h h.g no (h.at_.nofix e)
  exact ⟨S.keepAt h.at_ h.h h.t, a1, a2, h.t⟩
theorem FrL.step (S : Stp M G hs H G' hs' H') : ∀ {ds : List Sl} {vs : List V} {ps : List Addr}, FrL K M G hs H0 H ds vs ps → FrL K M G' hs' H0 H' ds vs ps
  | [], _, _, h => h
  | .v d :: r, _, _, ⟨v, vr, h1, h2, h3⟩ => ⟨v, vr, h1, h2.mono S.gg S.hp, FrL.step S h3⟩
  | .o d :: r, _, _, ⟨p, vr, pr, h1, h2, h3, h4, h5, h6⟩ => ⟨p, vr, pr, h1, h2, h3.step S, h4, h5, FrL.step S h6⟩
  | .no :: _, _, _, h => h.elim
theorem FrL.base (dm : ∀ a, Nt H1 a → Nt H0 a) : ∀ {ds : List Sl} {vs : List V} {ps : List Addr}, FrL K M G hs H1 H ds vs ps → FrL K M G hs H0 H ds vs ps
  | [], _, _, h => h
  | .v d :: r, _, _, ⟨v, vr, h1, h2, h3⟩ => ⟨v, vr, h1, h2, FrL.base dm h3⟩
  | .o d :: r, _, _, ⟨p, vr, pr, h1, h2, h3, h4, h5, h6⟩ => ⟨p, vr, pr, h1, h2, h3, dm _ h4, h5, FrL.base dm h6⟩
  | .no :: _, _, _, h => h.elim
theorem FrL.length : ∀ {ds : List Sl} {vs : List V} {ps : List Addr}, FrL K M G hs H0 H ds vs ps → vs.length = ds.length
  | [], _, _, ⟨e, _⟩ => by rw [e] <;> rfl
  | .v d :: r, _, _, ⟨v, vr, h1, h2, h3⟩ => by rw [h1, List.length_cons, List.length_cons, h3.length]
  | .o d :: r, _, _, ⟨q, vr, pr, h1, h2, h3, h4, h5, h6⟩ => by rw [h1, List.length_cons, List.length_cons, h6.length]
  | .no :: _, _, _, h => h.elim
def nilF : Env → DS → R (List Sl) := fun _ s => .ok [] s
def consV (f : Env → DS → R D) (g : Env → DS → R (List Sl)) : Env → DS → R (List Sl) := fun η s => (f η s).bind fun d s1 => (g η s1).bind fun ds s2 => .ok (.v d :: ds) s2
def consO (f : Env → DS → R D) (g : Env → DS → R (List Sl)) : Env → DS → R (List Sl) := fun η s => (f η s).bind fun d s1 => (g η s1).bind fun ds s2 => .ok (.o d :: ds) s2
variable {e : Expr} {es : List Expr} {f : Env → DS → R D} {g : Env → DS → R (List Sl)}
def putS : List Nat → List Sl → Env → Option Env
  | [], [], η => some η
  | i :: is, .v d :: ds, η => if i < η.length then putS is ds (η.set i (.v d)) else none
  | i :: is, .o d :: ds, η => if 0 < i ∧ i < η.length then putS is ds (η.set i (.o d)) else none
  | _, _, _ => none
def asgFB (is : List Nat) (fa : Env → DS → R (List Sl)) : Env → DS → F := fun η s => (fa η s).toF η fun sl s1 => match putS is sl η with
  | some η' => .nx η' s1
  | none => .bad
/-- t1 = t2 = e -/
def asg2B (f1 f2 : D → Env → Option Env) (fe : Env → DS → R D) : Env → DS → F := fun η s => (fe η s).toF η fun d s1 => match (f1 d η).bind (f2 d) with
  | some η' => .nx η' s1
  | none => .bad
end
end DL
set_option Elab.async false
set_option linter.all false
set_option maxRecDepth 100000
set_option maxHeartbeats 2000000
namespace DL
open PySem PySem.Spec PyProof.Rows L2
section
variable {M : Mp} {X : Cx} {W : WX} {K : PySem.W.Frag} {P : Program} {w : World} {mg : Str → Option Value} {base : Heap}
theorem funOfD {x q : Str} {st : Stmt} {f : Addr} {fd : FuncData} (F : FunD K x q (defArgs st) (defBody st) (defScope st) [] [] f fd) : Fun K x q st f fd := by
  obtain ⟨oc, od, dV, kV, doc, pm, an, cdv, ct, osl, h1, h2, h3, h4, _⟩ := F.ex
  have e : dV = .none := by
    rcases h4 with ⟨_, h⟩ | ⟨h, _⟩
    · exact h
    · exact absurd rfl h
  subst e
  exact ⟨⟨oc, od, kV, doc, pm, an, cdv, ct, osl, h1, h2, h3⟩, F.kp⟩
theorem Fun.okC {x qual : Str} {st : Stmt} {p : He.Defn} {fd : FuncData} {N ps : List Str} {k : Nat} {sp : Sp} (F : Fun K x qual st (He.fAd K p) fd) (S : FnScope N ps (defScope st)) (len : ∀ vs H Q E, sp vs H Q E → vs.length = ps.length)
    (hbody : ∀ (cdv : Value), cdv = .ref (He.cT K p).1 → ∀ (A : Around) (outer : List PySem.Env) (s : Shared) (H : Hp) (vs : List V) (Q : VK) (E : XK), Room k (A.deeper (envOfC qual (defScope st) s.heap.objs.size (He.fAd K p) cdv)) → sp vs H Q E →
      ∃ t, PSs (cxOf (L2.CX P w) P w K mg base N qual (defScope st) (He.fAd K p) cdv A outer s H E) (defBody st) t ∧ t { nx := fun _ H' => Q .non H', rt := Q } (L2.start N vs) H) : FnOk P w K mg base (L2.CX P w) (k + 1) (He.fAd K p) fd ps sp := by
  obtain ⟨oc, od, kV, doc, pm, an, cdv, ct, osl, rfl, lk, hcd⟩ := F.ex
  obtain ⟨c, hc⟩ := He.codeIn_ref hcd
  have e : cdv = .ref (He.cT K p).1 := by
    show cdv = .ref (He.codeOf K p)
    rw [He.codeOf_eq (c := c) lk hc, hc]
  exact fn_of lk hcd S len fun A outer s H vs Q E hr hsp => hbody cdv e A outer s H vs Q E hr hsp
abbrev BodyC (M : Mp) (P : Program) (w : World) (K : PySem.W.Frag) (mg : Str → Option Value) (base : Heap) (k : Nat) (N : List Str) (qual : Str) (st : Stmt) (f : Addr) (cdv : Value) (body : Env → DS → F) : Prop := ∀ (A : Around) (outer : List PySem.Env) (s : Shared) (H : Hp) (E : XK),
  Room k (A.deeper (envOfC qual (defScope st) s.heap.objs.size f cdv)) → DSs M (cxOf (L2.CX P w) P w K mg base N qual (defScope st) f cdv A outer s H E) (WofE E) (defBody st) body
theorem fn_okT {x qual : Str} {st : Stmt} {p : He.Defn} {fd : FuncData} {N ps : List Str} {k : Nat} {body : Env → DS → F} (F : Fun K x qual st (He.fAd K p) fd) (S : FnScope N ps (defScope st)) (hb : ∀ cdv : Value, cdv = .ref (He.cT K p).1 → BodyC M P w K mg base k N qual st (He.fAd K p) cdv body) : FnOk P w K mg base (L2.CX P w) (k + 1) (He.fAd K p) fd ps (SpD K M ps.length (fnD N.length body)) := by
  refine Fun.okC F S (fun vs H Q E ⟨G, hs, s, ds, _, r, hl, _⟩ => by rw [← r.length, hl]) fun cdv hcd A outer s0 H vs Q E hr ⟨G, hs, s, ds, J, r, hl, hp⟩ => ?_
  obtain ⟨t, pt, h⟩ := (hb cdv hcd A outer s0 H E hr).ex
  refine ⟨t, pt, h ⟨G, hs, H, none⟩ (L2.start N vs) H G hs (fun _ => 0) (padE N.length (ds.map .v)) s _ ⟨J, Stp.refl _ _ _ _, fun i d e => ?_, fun i d e => ?_, fun i j d d' e => ?_, ?_, fun _ _ z => by cases z⟩ (fnD_post (A := ⟨G, hs, H, none⟩) hp)⟩
  · have e1 := pad_get e (fun z => by cases z)
    rw [List.getElem?_map, Option.map_eq_some_iff] at e1
    obtain ⟨d', e2, e3⟩ := e1
    cases e3
    obtain ⟨v, h1, h2⟩ := r.get e2
    exact ⟨v, start_get h1, h2⟩
  · have e1 := pad_get e (fun z => by cases z)
    rw [List.getElem?_map, Option.map_eq_some_iff] at e1
    obtain ⟨d', e2, e3⟩ := e1
    cases e3
  · have e1 := pad_get e (fun z => by cases z)
    rw [List.getElem?_map, Option.map_eq_some_iff] at e1
    obtain ⟨d', e2, e3⟩ := e1
    cases e3
  · rw [start_len, ← r.length]
    unfold padE
    rw [List.length_append, List.length_replicate, List.length_map]
theorem de_lam {A : Around} {outer : List PySem.Env} {s : Shared} {H : Hp} {E : XK} {scope : Scope} {f c' : Addr} {k : Nat} {e : Expr} {fb : Env → DS → R D} (hr : Room k (A.deeper (LamX.lamEnv X scope s.heap.objs.size f c')))
    (h : (A.deeper (LamX.lamEnv X scope s.heap.objs.size f c')).units + 64 < cLine → Takes (LamX.lamCx X A outer s H E scope f c') (WofE E) → Flat (WofE E) → DE M (LamX.lamCx X A outer s H E scope f c') (WofE E) e fb) : DE M (LamX.lamCx X A outer s H E scope f c') (WofE E) e fb :=
  h hr.units (takes_of rfl rfl rfl rfl) (fun _ _ _ _ _ z => z)
theorem blkE {scope : Scope} {s : Shared} {H : Hp} {C : Addr} {cl : List (Str × Addr)} {fp : List Addr} {k : Nat} {e : Expr} {fb : Env → DS → R D} (hr : Room k X.A)
    (h : X.A.units + 64 < cLine → Takes (BC X scope s H C cl fp) W0 → Flat W0 → DE M (BC X scope s H C cl fp) W0 e fb) : DE M (BC X scope s H C cl fp) W0 e fb := h hr.units L2.takes0 (fun _ _ _ _ _ z => z)
theorem blkT {scope : Scope} {s : Shared} {H : Hp} {C : Addr} {cl : List (Str × Addr)} {fp : List Addr} {k : Nat} {e : List Expr} {fb : Env → DS → R Bool} (hr : Room k X.A)
    (h : X.A.units + 64 < cLine → Takes (BC X scope s H C cl fp) W0 → Flat W0 → DTs M (BC X scope s H C cl fp) W0 e fb) : DTs M (BC X scope s H C cl fp) W0 e fb := h hr.units L2.takes0 (fun _ _ _ _ _ z => z)
def calmN (c n : Nat) (f : Env → DS → R D) : Env → DS → R D := fun η s => (f η s).bind fun d s1 => match d with
  | .obj c' ds => if c' = c ∧ ds.length = n then .ok d s1 else .bad
  | _ => .bad
theorem DF.deN {e : Expr} {f : Env → DS → R D} {c n : Nat} (h : DF M X W e f) (hn : (M.flds c).length = n := by rfl) : DE M X W e (calmN c n f) := by
  obtain ⟨t, p, h⟩ := h.ex
  refine ⟨t, p, fun A σ H G hs own η s Q I hp => h A σ H G hs own η s Q I ?_⟩
  unfold calmN at hp
  cases q : f η s with
  | ok d s1 =>
    rw [q] at hp
    intro G1 hs1 H1 S1 J1 p hp0 fr
    have hp2 : RPost X.K M σ W G hs H (match d with | .obj c' ds => if c' = c ∧ ds.length = n then R.ok d s1 else .bad | _ => .bad) (fun d G' hs' _ H' => ∀ v, Rep X.K M G' hs' d v → Q v H') := hp
    split at hp2
    · rename_i c' ds
      split at hp2
      · rename_i hc
        obtain ⟨o, ho, hr⟩ := at_rep fr.g fr.at_ (fun c2 ds2 e2 => by cases e2; rw [hc.2, hc.1, hn]) trivial
        exact hp2 _ hs1 H1 (S1.still hp0 fr.g) (J1.still ho fr.h fr.t fr.g (at_no fr.at_ ho)) _ hr
      · exact hp2.elim
    · exact hp2.elim
  | ex c p s1 => rw [q] at hp; exact hp
  | bad => rw [q] at hp; exact hp
end
end DL
set_option Elab.async false
set_option linter.all false
set_option maxRecDepth 100000
set_option maxHeartbeats 2000000
namespace DL
open PySem PySem.Spec PyProof.Rows L2
theorem law_sp {K : PySem.W.Frag} {M : Mp} {cs : List (Addr × Addr)} (g : List D → DS → R D) {n : Nat} (hg : ∀ ns : List Int, ns.length ≤ n → ∃ s, g [.scr ns] [] = .ok (.bl true) s) (ht : ∀ p ∈ M.tabs.l, ∃ q ∈ cs, q.2 = p.1) (ho : M.tabs.own = none := by rfl)
    (H : Hp) (a : Addr) (ns : List Int) (hl : ns.length ≤ n) (hT : ∀ p ∈ cs, H p.2 = some (.tbl #[])) (hS : SqL K H a (ns.map V.int)) : SpD K M 1 g [.ref a] H (fun v _ => v = .bl true) fun _ _ _ => False := by
  obtain ⟨s, hs⟩ := hg ns hl
  let G : Hp := fun b => match H b with
    | some (.tbl _) => none
    | o => o
  have gs : Same G H := fun b o e => by
    show H b = some o
    have e1 : (match H b with | some (.tbl _) => none | o => o) = some o := e
    split at e1
    · cases e1
    · exact e1
  have keep : ∀ b o, H b = some o → (∀ ps, o ≠ .tbl ps) → G b = some o := fun b o e no => by
    show (match H b with | some (.tbl _) => none | o => o) = some o
    rw [e]
    cases o with
    | tbl ps => exact absurd rfl (no ps)
    | _ => rfl
  have tG : ∀ b o, G b = some o → ∀ ps, o ≠ .tbl ps := fun b o e ps z => by
    subst z
    have e1 : (match H b with | some (.tbl _) => none | o => o) = some (HO.tbl ps) := e
    split at e1
    · cases e1
    · rename_i h1
      exact h1 _ e1
  have hS' : SqL K G a (ns.map V.int) := by
    rcases hS with (h | ⟨o, h⟩) | h
    · exact .inl (.inl (keep _ _ h fun ps z => by cases z))
    · exact .inl (.inr ⟨o, keep _ _ h fun ps z => by cases z⟩)
    · exact .inr h
  refine ⟨G, [], [], [.scr ns], ⟨gs, rfl, List.nodup_nil, fun _ h => (by cases h), fun k a d e => (by simp at e), ⟨fun p hp => ?_, fun c P q z => (by rw [ho] at z; cases z)⟩, tG⟩, repL_cons.mpr ⟨_, [], rfl, rep_scr.mpr ⟨a, rfl, hS'⟩, repL_nil.mpr rfl⟩, rfl, ?_⟩
  · obtain ⟨q, hq, e⟩ := ht p hp
    rw [← e]
    exact ⟨#[], hT q hq, True.intro, fun pos cv hc => by
      have z : codeAmong pos [] = some cv := hc
      simp [codeAmong] at z⟩
  · rw [hs]
    exact fun G' hs' H' _ _ v hv => rep_bl.mp hv
theorem cx_no {P : Program} {w : World} {H : Hp} {s : Shared} {e : Value} {s' : Shared} (h : L2.CX P w [] H s (fun _ _ _ => False) e s') : False := by
  obtain ⟨_, _, _, _, _, _, _, _, _, _, _, _, z⟩ := h
  exact z
theorem binds_one {K : PySem.W.Frag} {x q : Str} {st : Stmt} {f : Addr} {fd : FuncData} {a : Str} (F : Fun K x q st f fd) (h : ∀ (kV doc pm : Value) (an : Option Addr) (cdv ct u : Value), bindArgs (PySem.W.fnOf x q (defArgs st) (defBody st) (defScope st) .none kV doc pm an cdv ct) ⟨[u], []⟩ = pure [(a, u)]) (s : Shared) (u : Value) :
    BindsTo s fd ⟨[u], []⟩ [(a, u)] := by
  obtain ⟨oc, od, kV, doc, pm, an, cdv, ct, osl, rfl, lk, hcd⟩ := F.ex
  exact .of_eq (h kV doc pm an cdv ct u)
end DL
set_option Elab.async false
set_option linter.all false
set_option maxRecDepth 100000
set_option maxHeartbeats 2000000
namespace DL
open PySem L2
def F.then (r : F) (g : DL.Env → DS → F) : F := match r with
  | .nx η' s' => g η' s'
  | r => r
def R.bnd {α β : Type} (r : R α) (k : α → DS → R β) : R β := match r with
  | .ok a s => k a s
  | .ex c p s => .ex c p s
  | .bad => .bad
section
variable {α β : Type} {η : DL.Env} {s s' : DS} {f g : DL.Env → DS → F} {fa fb fc : DL.Env → DS → R D} {ft : DL.Env → DS → R Bool} {c : Nat} {p : List D} {d : D} {a : α} {i n : Nat}
theorem seqB_eq : seqB f g η s = (f η s).then g := rfl
theorem then_nx : (F.nx η s).then g = g η s := rfl
theorem then_rt : (F.rt d s).then g = .rt d s := rfl
theorem then_bk : (F.bk η s).then g = .bk η s := rfl
theorem then_ct : (F.ct η s).then g = .ct η s := rfl
theorem then_ex : (F.ex c p η s).then g = .ex c p η s := rfl
theorem then_bad : F.bad.then g = .bad := rfl
theorem bind_ok {k : α → DS → R β} : (R.ok a s).bnd k = k a s := rfl
theorem bind_ex {k : α → DS → R β} : (R.ex c p s).bnd k = .ex c p s := rfl
theorem bind_bad {k : α → DS → R β} : (R.bad : R α).bnd k = .bad := rfl
theorem toF_ok {k : α → DS → F} : (R.ok a s).toF η k = k a s := rfl
theorem toF_ex {k : α → DS → F} : (R.ex c p s : R α).toF η k = .ex c p η s := rfl
theorem toF_bad {k : α → DS → F} : (R.bad : R α).toF η k = .bad := rfl
theorem ofO_some : R.ofO (some a) s = .ok a s := rfl
theorem ofO_none : R.ofO (none : Option α) s = .bad := rfl
theorem nx_ok : (R.ok a s).nx = .ok a s := rfl
theorem cD_eq : cD d η s = .ok d s := rfl
theorem vD_0 : vD 0 (.v d :: η) s = .ok d s := rfl
theorem vD_s {x : Sl} : vD (i + 1) (x :: η) s = vD i η s := rfl
theorem vB_0 : vB 0 (.v d :: η) s = .ok d s := rfl
theorem vB_o : vB 0 (.o d :: η) s = .ok d s := rfl
theorem vB_s {x : Sl} : vB (i + 1) (x :: η) s = vB i η s := rfl
theorem bopD_eq {o : D → D → Option D} : bopD o fa fb η s = (fa η s).bnd fun x s1 => (fb η s1).bnd fun y s2 => R.ofO (o (deref s2 x) (deref s2 y)) s2 := rfl
theorem uopD_eq {o : D → Option D} : uopD o fa η s = (fa η s).bnd fun x s1 => R.ofO (o (deref s1 x)) s1 := rfl
theorem tstD_eq : tstD fa η s = (fa η s).bnd fun x s1 => R.ofO (asB x) s1 := rfl
theorem asB_bl {b : Bool} : asB (.bl b) = some b := rfl
theorem asI_int {i : Int} : asI (.int i) = some i := rfl
theorem deref_int {i : Int} : deref s (.int i) = .int i := rfl
theorem deref_bl {i : Bool} : deref s (.bl i) = .bl i := rfl
theorem deref_str {i : Str} : deref s (.str i) = .str i := rfl
theorem deref_non : deref s .non = .non := rfl
theorem deref_tup {l : List D} : deref s (.tup l) = .tup l := rfl
theorem deref_lst {l : List D} : deref s (.lst l) = .lst l := rfl
theorem deref_dic {l : List (D × D)} : deref s (.dic l) = .dic l := rfl
theorem deref_obj {l : List D} : deref s (.obj c l) = .obj c l := rfl
theorem deref_scr {l : List Int} : deref s (.scr l) = .scr l := rfl
theorem chD_eq {o o' : D → D → Option D} : chD o o' fa fb fc η s = (fa η s).bnd fun x s1 => (fb η s1).bnd fun y s2 => (R.ofO (o (deref s2 x) (deref s2 y)) s2).bnd fun z s3 =>
  (R.ofO (asB z) s3).bnd fun k s3 => if k = true then (fc η s3).bnd fun w s4 => R.ofO (o' (deref s4 y) (deref s4 w)) s4 else .ok (.bl false) s3 := rfl
theorem andT_eq {f g : DL.Env → DS → R Bool} : andT f g η s = (f η s).bnd fun b s1 => if b = true then g η s1 else .ok false s1 := rfl
theorem orT_eq {f g : DL.Env → DS → R Bool} : orT f g η s = (f η s).bnd fun b s1 => if b = true then .ok true s1 else g η s1 := rfl
theorem notT_eq {f : DL.Env → DS → R Bool} : notT f η s = (f η s).bnd fun b s1 => .ok (!b) s1 := rfl
theorem ifD_eq : ifD ft fa fb η s = (ft η s).bnd fun b s1 => if b = true then fa η s1 else fb η s1 := rfl
theorem andD_eq : andD fa fb η s = (tstD fa η s).bnd fun b s1 => if b = true then fb η s1 else .ok (.bl false) s1 := rfl
theorem orD_eq : orD fa fb η s = (tstD fa η s).bnd fun b s1 => if b = true then .ok (.bl true) s1 else fb η s1 := rfl
theorem notD_eq : notD fa η s = (tstD fa η s).bnd fun b s1 => .ok (.bl (!b)) s1 := rfl
theorem nilA_eq : nilA η s = .ok [] s := rfl
theorem consA_eq {ga : DL.Env → DS → R (List D)} : consA fa ga η s = (fa η s).bnd fun d s1 => (ga η s1).bnd fun ds s2 => .ok (d :: ds) s2 := rfl
theorem tupD_eq {ga : DL.Env → DS → R (List D)} : tupD ga η s = (ga η s).bnd fun ds s1 => if ds.length ≤ 16777216 then .ok (.tup ds) s1 else .bad := rfl
theorem lstD_eq {ga : DL.Env → DS → R (List D)} : lstD ga η s = (ga η s).bnd fun ds s1 => if ds.length ≤ 16777216 then .ok (.lst ds) s1 else .bad := rfl
theorem fldD_eq : fldD c i fa η s = (fa η s).bnd fun x s1 => R.ofO (fldO c i (deref s1 x)) s1 := rfl
theorem bltD_eq {o : List D → Option D} {ga : DL.Env → DS → R (List D)} : bltD o ga η s = (ga η s).bnd fun ds s1 => R.ofO (o (ds.map (deref s1))) s1 := rfl
theorem partN_eq : partN η s = .ok none s := rfl
theorem partS_eq : partS fa η s = (fa η s).bnd fun d s1 => (R.ofO (asI d) s1).bnd fun i s2 => .ok (some i) s2 := rfl
theorem sliceD_eq {fl fh : DL.Env → DS → R (Option Int)} : sliceD fa fl fh η s = (fa η s).bnd fun x s1 => (fl η s1).bnd fun l s2 => (fh η s2).bnd fun u s3 => R.ofO (opCut (deref s3 x) l u) s3 := rfl
theorem callD_eq {g : List D → DS → R D} {ga : DL.Env → DS → R (List D)} : callD g ga η s = (ga η s).bnd fun ds s1 => g ds s1 := rfl
theorem gateD_eq {g : List D → DS → R D} {l : List D} : gateD n g l s = if l.length = n then g l s else .bad := rfl
theorem methD_eq {g : List D → DS → R D} {fo : DL.Env → DS → R D} {ga : DL.Env → DS → R (List D)} : methD c g fo ga η s = (fo η s).bnd fun o s1 => if isC c (deref s1 o) = true then (ga η s1).bnd fun ds s2 => g (o :: ds) s2 else .bad := rfl
theorem isC_obj {c' : Nat} {l : List D} : isC c (.obj c' l) = (c' == c) := rfl
theorem calmD_eq : calmD fa η s = (fa η s).bnd fun d s1 => if notObj d = true then .ok d s1 else .bad := rfl
def calmK (c n : Nat) (d : D) (s : DS) : R D := match d with
  | .obj c' ds => if c' = c ∧ ds.length = n then .ok d s else .bad
  | _ => .bad
theorem calmN_eq : calmN c n fa η s = (fa η s).bnd (calmK c n) := rfl
theorem calmK_obj {l : List D} : calmK c n (.obj c l) s = if l.length = n then .ok (.obj c l) s else .bad := by
  unfold calmK
  simp only [true_and]
theorem hanD_eq : hanD fa η s = (fa η s).bnd fun d s1 => .ok (.han s1.length) (s1 ++ [d]) := rfl
theorem setB_eq : setB i fa η s = (fa η s).toF η fun d s1 => setF η i d s1 := rfl
theorem setOB_eq : setOB i fa η s = (fa η s).toF η fun d s1 => setOF η i d s1 := rfl
theorem setF_eq : setF η i d s = if i < η.length then .nx (η.set i (.v d)) s else .bad := rfl
theorem setOF_eq : setOF η i d s = if 0 < i ∧ i < η.length then .nx (η.set i (.o d)) s else .bad := rfl
theorem ifB_eq : ifB ft f g η s = (ft η s).toF η fun b s1 => if b = true then f η s1 else g η s1 := rfl
theorem retB_eq : retB fa η s = (fa η s).toF η fun d s1 => .rt d s1 := rfl
theorem retN_eq : retN η s = .rt .non s := rfl
theorem dropB_eq : dropB fa η s = (fa η s).toF η fun _ s1 => .nx η s1 := rfl
theorem nextB_eq : nextB η s = .nx η s := rfl
theorem breakB_eq : breakB η s = .bk η s := rfl
theorem contB_eq : contB η s = .ct η s := rfl
theorem raiseA_eq {ga : DL.Env → DS → R (List D)} : raiseA c ga η s = (ga η s).toF η fun _ s1 => .ex c [] η s1 := rfl
theorem augB_eq {o : D → D → Option D} : augB i o fa η s = (bopD o (vD i) fa η s).toF η fun d s1 => setF η i d s1 := rfl
theorem frzB_eq {is : List Nat} : frzB is f η s = f (frzL is η) s := rfl
def asgK (f : D → DL.Env → Option DL.Env) (η : DL.Env) (d : D) (s : DS) : F := match f d η with
  | some η' => .nx η' s
  | none => .bad
theorem asgB_eq {f : D → DL.Env → Option DL.Env} : asgB f fa η s = (fa η s).toF η (asgK f η) := rfl
theorem asg2B_eq {f1 f2 : D → DL.Env → Option DL.Env} : asg2B f1 f2 fa η s = (fa η s).toF η fun d s1 => asgK (fun d η => (f1 d η).bind (f2 d)) η d s1 := rfl
theorem parB_eq {is : List Nat} {ga : DL.Env → DS → R (List D)} : parB is ga η s = (ga η s).toF η fun ds s1 => parB.putAll is ds η s1 := rfl
theorem putAll_nil : parB.putAll [] [] η s = .nx η s := rfl
theorem putAll_cons {is : List Nat} {ds : List D} : parB.putAll (i :: is) (d :: ds) η s = if i < η.length then parB.putAll is ds (η.set i (.v d)) s else .bad := rfl
def asgFK (is : List Nat) (η : DL.Env) (l : List Sl) (s : DS) : F := match putS is l η with
  | some η' => .nx η' s
  | none => .bad
theorem asgFB_eq {is : List Nat} {ga : DL.Env → DS → R (List Sl)} : asgFB is ga η s = (ga η s).toF η (asgFK is η) := rfl
theorem nilF_eq : nilF η s = .ok [] s := rfl
theorem consV_eq {ga : DL.Env → DS → R (List Sl)} : consV fa ga η s = (fa η s).bnd fun d s1 => (ga η s1).bnd fun ds s2 => .ok (.v d :: ds) s2 := rfl
theorem consO_eq {ga : DL.Env → DS → R (List Sl)} : consO fa ga η s = (fa η s).bnd fun d s1 => (ga η s1).bnd fun ds s2 => .ok (.o d :: ds) s2 := rfl
theorem gN_eq : gN i d η = if i < η.length then some (η.set i (.v d)) else none := rfl
theorem gsN_eq : gsN [] η = some η := rfl
theorem gsC_eq {f : D → DL.Env → Option DL.Env} {g : List D → DL.Env → Option DL.Env} {ds : List D} : gsC f g (d :: ds) η = (f d η).bind (g ds) := rfl
theorem gT_eq {g : List D → DL.Env → Option DL.Env} {ds : List D} : gT g (.tup ds) η = g ds η := rfl
def fnK (r : F) : R D := match r with
  | .nx _ s1 => .ok .non s1
  | .rt d s1 => .ok d s1
  | .ex c p _ s1 => .ex c p s1
  | _ => .bad
theorem fnD_eq {l : List D} : fnD n f l s = fnK (f (padE n (l.map .v)) s) := rfl
theorem fnK_nx : fnK (.nx η s) = .ok .non s := rfl
theorem fnK_rt : fnK (.rt d s) = .ok d s := rfl
theorem fnK_ex : fnK (.ex c p η s) = .ex c p s := rfl
theorem fnK_bad : fnK .bad = .bad := rfl
def inK (r : F) : R D := match r with
  | .nx η s1 => (match η[0]? with
    | some (Sl.o d) => .ok d s1
    | _ => .bad)
  | .ex c p _ s1 => .ex c p s1
  | _ => .bad
theorem inD_eq {l : List D} : inD c n f l s = inK (f (padE n (.o (.obj c []) :: l.map .v)) s) := rfl
theorem inK_nx : inK (.nx (.o d :: η) s) = .ok d s := rfl
theorem inK_ex : inK (.ex c p η s) = .ex c p s := rfl
def toldK (l : List (Nat × Str)) (r : R D) : R D := match r with
  | .ok d s1 => .ok d s1
  | .ex c _ s1 => (match l.lookup c with
    | some r => .ok (.str r) s1
    | none => .bad)
  | .bad => .bad
theorem toldD_eq {l : List (Nat × Str)} : toldD l fa η s = toldK l (fa η s) := rfl
end
theorem opAdd_int {a b : Int} : opAdd (.int a) (.int b) = some (.int (a + b)) := rfl
theorem opAug_int {a b : Int} : opAug (.int a) (.int b) = some (.int (a + b)) := rfl
theorem opSub_int {a b : Int} : opSub (.int a) (.int b) = some (.int (a - b)) := rfl
theorem opMul_int {a b : Int} (h : (-18446744073709551616 < a ∧ a < 18446744073709551616) ∨ (-18446744073709551616 < b ∧ b < 18446744073709551616)) : opMul (.int a) (.int b) = some (.int (a * b)) := by
  unfold opMul
  simp only
  rw [if_pos]
  simpa [small64, Bool.or_eq_true, cl_iff] using h
theorem opMul_r {a b : Int} (h : -18446744073709551616 < b ∧ b < 18446744073709551616) : opMul (.int a) (.int b) = some (.int (a * b)) := opMul_int (.inr h)
theorem opMul_l {a b : Int} (h : -18446744073709551616 < a ∧ a < 18446744073709551616) : opMul (.int a) (.int b) = some (.int (a * b)) := opMul_int (.inl h)
theorem opMulI_int {a b : Int} (h : (-18446744073709551616 < a ∧ a < 18446744073709551616) ∨ (-18446744073709551616 < b ∧ b < 18446744073709551616)) : opMulI (.int a) (.int b) = some (.int (a * b)) := by
  unfold opMulI
  simp only
  rw [if_pos]
  simpa [small64, Bool.or_eq_true, cl_iff] using h
theorem opMulI_r {a b : Int} (h : -18446744073709551616 < b ∧ b < 18446744073709551616) : opMulI (.int a) (.int b) = some (.int (a * b)) := opMulI_int (.inr h)
theorem opMulI_l {a b : Int} (h : -18446744073709551616 < a ∧ a < 18446744073709551616) : opMulI (.int a) (.int b) = some (.int (a * b)) := opMulI_int (.inl h)
theorem opDiv_int {a b : Int} (h : 0 < b ∧ b < 18446744073709551616) : opDiv (.int a) (.int b) = some (.int (a / b)) := if_pos (cl_yes h)
theorem opMod_int {a b : Int} (h : 0 < b) : opMod (.int a) (.int b) = some (.int (a % b)) := if_pos h
theorem opLt_int {a b : Int} : opLt (.int a) (.int b) = some (.bl (decide (a < b))) := rfl
theorem opLe_int {a b : Int} : opLe (.int a) (.int b) = some (.bl (decide (a ≤ b))) := rfl
theorem opGt_int {a b : Int} : opGt (.int a) (.int b) = some (.bl (decide (b < a))) := rfl
theorem opGe_int {a b : Int} : opGe (.int a) (.int b) = some (.bl (decide (b ≤ a))) := rfl
theorem opEq_int {a b : Int} : opEq (.int a) (.int b) = some (.bl (decide (a = b))) := by
  show some (D.bl (a == b)) = _
  congr 2
theorem opNe_int {a b : Int} : opNe (.int a) (.int b) = some (.bl (!decide (a = b))) := by
  show some (D.bl (!(a == b))) = _
  congr 3
theorem min2_int {a b : Int} : min2O [.int a, .int b] = some (.int (min a b)) := by
  show some (D.int (if b < a then b else a)) = _
  congr 2
  split <;> omega
theorem max2_int {a b : Int} : max2O [.int a, .int b] = some (.int (max a b)) := by
  show some (D.int (if b > a then b else a)) = _
  congr 2
  split <;> omega
theorem absO_int {a : Int} : absO [.int a] = some (.int (a.natAbs : Int)) := by
  show some (D.int (if a < 0 then -a else a)) = _
  congr 2
  split <;> omega
theorem intO_int {a : Int} : intO [.int a] = some (.int a) := rfl
theorem intO_bl {a : Bool} : intO [.bl a] = some (.int (if a then 1 else 0)) := rfl
theorem fldO_eq {c i : Nat} {ds : List D} : fldO c i (.obj c ds) = ds[i]? := if_pos rfl
theorem opIx_t {ds : List D} {i : Int} : opIx (.tup ds) (.int i) = atI ds i := rfl
theorem opIx_l {ds : List D} {i : Int} : opIx (.lst ds) (.int i) = atI ds i := rfl
theorem atI_ofNat {ds : List D} {i : Int} (h0 : 0 ≤ i) (h : i < ds.length) : atI ds i = ds[i.toNat]? := by
  unfold atI ixN
  simp [h0, h]
theorem ite_yes {α : Sort _} {c : Prop} [Decidable c] {a b : α} (h : c) : (if c then a else b) = a := if_pos h
theorem ite_no {α : Sort _} {c : Prop} [Decidable c] {a b : α} (h : ¬ c) : (if c then a else b) = b := if_neg h
theorem dec_yes {p : Prop} [Decidable p] (h : p) : decide p = true := decide_eq_true h
theorem dec_no {p : Prop} [Decidable p] (h : ¬ p) : decide p = false := decide_eq_false h
section
variable {α β : Type} {η : DL.Env} {s s' : DS} {f g : DL.Env → DS → F} {fa fb fc : DL.Env → DS → R D} {ft : DL.Env → DS → R Bool} {c : Nat} {p : List D} {d x : D} {i j k n : Nat}
def plK (o : Option Sl) (i : Nat) (s : DS) : R Plc := match o with
  | some (.o _) => .ok (.slot i) s
  | some (.v (.han k)) => .ok (.han k) s
  | _ => .bad
theorem plV_eq : plV i η s = plK η[i]? i s := rfl
theorem plK_o : plK (some (.o d)) i s = .ok (.slot i) s := rfl
theorem plK_h : plK (some (.v (.han k))) i s = .ok (.han k) s := rfl
def plEK (d : D) (s : DS) : R Plc := match d with
  | .han k => .ok (.han k) s
  | _ => .bad
theorem plE_eq : plE fa η s = (fa η s).bnd plEK := rfl
theorem plEK_h : plEK (.han k) s = .ok (.han k) s := rfl
def wrSU (o : Option D) (i : Nat) (η : DL.Env) (s : DS) : F := match o with
  | some d' => .nx (η.set i (.o d')) s
  | none => .bad
def wrS (o : Option Sl) (u : D → Option D) (i : Nat) (η : DL.Env) (s : DS) : F := match o with
  | some (.o d) => wrSU (u d) i η s
  | _ => .bad
def wrHU (o : Option D) (k : Nat) (η : DL.Env) (s : DS) : F := match o with
  | some d' => .nx η (s.set k d')
  | none => .bad
def wrH (o : Option D) (u : D → Option D) (k : Nat) (η : DL.Env) (s : DS) : F := match o with
  | some d => wrHU (u d) k η s
  | none => .bad
theorem wrF_slot {u : D → Option D} : wrF (.slot i) u η s = wrS η[i]? u i η s := by
  show (match (match η[i]? with | some (.o d) => some d | _ => none) with | some d => (match u d with | some d' => F.nx (η.set i (.o d')) s | none => .bad) | none => F.bad) = _
  unfold wrS wrSU
  generalize η[i]? = o
  cases o with
  | none => rfl
  | some x => cases x <;> rfl
theorem wrF_han {u : D → Option D} : wrF (.han k) u η s = wrH s[k]? u k η s := by
  show (match s[k]? with | some d => (match u d with | some d' => F.nx η (s.set k d') | none => .bad) | none => F.bad) = _
  unfold wrH wrHU
  generalize s[k]? = o
  cases o <;> rfl
theorem wrS_o {u : D → Option D} : wrS (some (.o d)) u i η s = wrSU (u d) i η s := rfl
theorem wrH_s {u : D → Option D} : wrH (some d) u k η s = wrHU (u d) k η s := rfl
theorem wrSU_s : wrSU (some d) i η s = .nx (η.set i (.o d)) s := rfl
theorem wrHU_s : wrHU (some d) k η s = .nx η (s.set k d) := rfl
theorem fldB_eq {fp : DL.Env → DS → R Plc} : fldB c j fa fp η s = (fa η s).toF η fun x s1 => (fp η s1).toF η fun pl s2 => wrF pl (fldU c j x) η s2 := rfl
theorem fldU_eq {ds : List D} : fldU c j x (.obj c ds) = if j ≤ ds.length then some (.obj c (if j < ds.length then ds.set j x else ds ++ [x])) else none := by
  unfold fldU
  simp only [true_and]
theorem stB_eq {fp : DL.Env → DS → R Plc} {fi : DL.Env → DS → R D} {u : D → D → D → Option D} : stB fa fp fi u η s = (fa η s).toF η fun x s1 => (fp η s1).toF η fun pl s2 => (fi η s2).toF η fun i s3 => wrF pl (u i x) η s3 := rfl
def stAK (o : Option D) (k : D → F) : F := match o with
  | some x => k x
  | none => .bad
theorem stAK_s {k : D → F} : stAK (some d) k = k d := rfl
theorem stAugB_eq {fp : DL.Env → DS → R Plc} {fi : DL.Env → DS → R D} {g o : D → D → Option D} {u : D → D → D → Option D} : stAugB fp fi g o fa u η s = (fp η s).toF η fun pl s1 => (fi η s1).toF η fun i s2 =>
    stAK ((plcD pl η s2).bind (g i)) fun x => (fa η s2).toF η fun y s3 => stAK (o (deref s3 x) (deref s3 y)) fun z => wrF pl (u i z) η s3 := rfl
theorem fldAugB_eq {fp : DL.Env → DS → R Plc} {o : D → D → Option D} : fldAugB c j fp o fa η s = (fp η s).toF η fun pl s1 => stAK ((plcD pl η s1).bind (fldO c j)) fun x => (fa η s1).toF η fun y s2 => stAK (o (deref s2 x) (deref s2 y)) fun z => wrF pl (fldU c j z) η s2 := rfl
def plS (o : Option Sl) : Option D := match o with
  | some (.o d) => some d
  | _ => none
theorem plcD_slot : plcD (.slot i) η s = plS η[i]? := rfl
theorem plcD_han : plcD (.han k) η s = s[k]? := rfl
theorem plS_o : plS (some (.o d)) = some d := rfl
theorem mtB_eq {ty : D → Bool} {fp : DL.Env → DS → R Plc} {ga : DL.Env → DS → R (List D)} {u : List D → D → Option D} : mtB ty fp ga u η s = (fp η s).toF η fun pl s1 => stAK (plcD pl η s1) fun d0 => if ty d0 = true then (ga η s1).toF η fun ds s2 => wrF pl (u ds) η s2 else .bad := rfl
theorem isLst_l {l : List D} : isLst (.lst l) = true := rfl
theorem appU_l {l : List D} : appU [x] (.lst l) = if l.length < 16777216 then some (.lst (l ++ [x])) else none := rfl
theorem setL_l {l : List D} {k : Int} : setL (.int k) x (.lst l) = (ixN l.length k).map fun j => .lst (l.set j x) := rfl
theorem getL_l {l : List D} {k : Int} : getL (.int k) (.lst l) = atI l k := rfl
theorem ixN_ok {n : Nat} {k : Int} (h : 0 ≤ k ∧ k < n) : ixN n k = some k.toNat := by
  unfold ixN
  rw [if_pos h.1, if_pos h.2]
theorem atI_0 {x : D} {l : List D} : atI (x :: l) 0 = some x := by
  unfold atI ixN
  rw [if_pos (by omega), if_pos (by rw [List.length_cons]; omega)]
  rfl
theorem atI_1 {x0 x1 : D} {l : List D} : atI (x0 :: x1 :: l) 1 = some x1 := by
  unfold atI ixN
  rw [if_pos (by omega), if_pos (by simp only [List.length_cons]; omega)]
  rfl
theorem atI_2 {x0 x1 x2 : D} {l : List D} : atI (x0 :: x1 :: x2 :: l) 2 = some x2 := by
  unfold atI ixN
  rw [if_pos (by omega), if_pos (by simp only [List.length_cons]; omega)]
  rfl
theorem atI_3 {x0 x1 x2 x3 : D} {l : List D} : atI (x0 :: x1 :: x2 :: x3 :: l) 3 = some x3 := by
  unfold atI ixN
  rw [if_pos (by omega), if_pos (by simp only [List.length_cons]; omega)]
  rfl
theorem atI_4 {x0 x1 x2 x3 x4 : D} {l : List D} : atI (x0 :: x1 :: x2 :: x3 :: x4 :: l) 4 = some x4 := by
  unfold atI ixN
  rw [if_pos (by omega), if_pos (by simp only [List.length_cons]; omega)]
  rfl
theorem atI_5 {x0 x1 x2 x3 x4 x5 : D} {l : List D} : atI (x0 :: x1 :: x2 :: x3 :: x4 :: x5 :: l) 5 = some x5 := by
  unfold atI ixN
  rw [if_pos (by omega), if_pos (by simp only [List.length_cons]; omega)]
  rfl
theorem atI_6 {x0 x1 x2 x3 x4 x5 x6 : D} {l : List D} : atI (x0 :: x1 :: x2 :: x3 :: x4 :: x5 :: x6 :: l) 6 = some x6 := by
  unfold atI ixN
  rw [if_pos (by omega), if_pos (by simp only [List.length_cons]; omega)]
  rfl
theorem atI_7 {x0 x1 x2 x3 x4 x5 x6 x7 : D} {l : List D} : atI (x0 :: x1 :: x2 :: x3 :: x4 :: x5 :: x6 :: x7 :: l) 7 = some x7 := by
  unfold atI ixN
  rw [if_pos (by omega), if_pos (by simp only [List.length_cons]; omega)]
  rfl
theorem atI_8 {x0 x1 x2 x3 x4 x5 x6 x7 x8 : D} {l : List D} : atI (x0 :: x1 :: x2 :: x3 :: x4 :: x5 :: x6 :: x7 :: x8 :: l) 8 = some x8 := by
  unfold atI ixN
  rw [if_pos (by omega), if_pos (by simp only [List.length_cons]; omega)]
  rfl
theorem atI_9 {x0 x1 x2 x3 x4 x5 x6 x7 x8 x9 : D} {l : List D} : atI (x0 :: x1 :: x2 :: x3 :: x4 :: x5 :: x6 :: x7 :: x8 :: x9 :: l) 9 = some x9 := by
  unfold atI ixN
  rw [if_pos (by omega), if_pos (by simp only [List.length_cons]; omega)]
  rfl
theorem atI_10 {x0 x1 x2 x3 x4 x5 x6 x7 x8 x9 x10 : D} {l : List D} : atI (x0 :: x1 :: x2 :: x3 :: x4 :: x5 :: x6 :: x7 :: x8 :: x9 :: x10 :: l) 10 = some x10 := by
  unfold atI ixN
  rw [if_pos (by omega), if_pos (by simp only [List.length_cons]; omega)]
  rfl
theorem atI_11 {x0 x1 x2 x3 x4 x5 x6 x7 x8 x9 x10 x11 : D} {l : List D} : atI (x0 :: x1 :: x2 :: x3 :: x4 :: x5 :: x6 :: x7 :: x8 :: x9 :: x10 :: x11 :: l) 11 = some x11 := by
  unfold atI ixN
  rw [if_pos (by omega), if_pos (by simp only [List.length_cons]; omega)]
  rfl
theorem atI_12 {x0 x1 x2 x3 x4 x5 x6 x7 x8 x9 x10 x11 x12 : D} {l : List D} : atI (x0 :: x1 :: x2 :: x3 :: x4 :: x5 :: x6 :: x7 :: x8 :: x9 :: x10 :: x11 :: x12 :: l) 12 = some x12 := by
  unfold atI ixN
  rw [if_pos (by omega), if_pos (by simp only [List.length_cons]; omega)]
  rfl
theorem atI_13 {x0 x1 x2 x3 x4 x5 x6 x7 x8 x9 x10 x11 x12 x13 : D} {l : List D} : atI (x0 :: x1 :: x2 :: x3 :: x4 :: x5 :: x6 :: x7 :: x8 :: x9 :: x10 :: x11 :: x12 :: x13 :: l) 13 = some x13 := by
  unfold atI ixN
  rw [if_pos (by omega), if_pos (by simp only [List.length_cons]; omega)]
  rfl
theorem atI_14 {x0 x1 x2 x3 x4 x5 x6 x7 x8 x9 x10 x11 x12 x13 x14 : D} {l : List D} : atI (x0 :: x1 :: x2 :: x3 :: x4 :: x5 :: x6 :: x7 :: x8 :: x9 :: x10 :: x11 :: x12 :: x13 :: x14 :: l) 14 = some x14 := by
  unfold atI ixN
  rw [if_pos (by omega), if_pos (by simp only [List.length_cons]; omega)]
  rfl
theorem atI_15 {x0 x1 x2 x3 x4 x5 x6 x7 x8 x9 x10 x11 x12 x13 x14 x15 : D} {l : List D} : atI (x0 :: x1 :: x2 :: x3 :: x4 :: x5 :: x6 :: x7 :: x8 :: x9 :: x10 :: x11 :: x12 :: x13 :: x14 :: x15 :: l) 15 = some x15 := by
  unfold atI ixN
  rw [if_pos (by omega), if_pos (by simp only [List.length_cons]; omega)]
  rfl
theorem atI_at {l : List D} {i : Int} (h : 0 ≤ i ∧ i < l.length) : atI l i = l[i.toNat]? := by
  unfold atI
  rw [ixN_ok h]
  rfl
theorem deref_han {l : DS} : deref (d :: l) (.han 0) = d := rfl
theorem notObj_l {l : List D} : notObj (.lst l) = true := rfl
theorem notObj_t {l : List D} : notObj (.tup l) = true := rfl
theorem notObj_d {l : List (D × D)} : notObj (.dic l) = false := rfl
theorem forB_eq {fi : DL.Env → DS → R (List D)} {put : D → DL.Env → Option DL.Env} : forB fi put f η s = (fi η s).toF η fun ds s1 => forF put f ds η s1 := rfl
theorem rngD_eq {o : List D → Option (List D)} {ga : DL.Env → DS → R (List D)} : rngD o ga η s = (ga η s).bnd fun ds s1 => R.ofO (o ds) s1 := rfl
theorem iterD_eq {o : D → Option (List D)} : iterD o fa η s = (fa η s).bnd fun d s1 => R.ofO (o d) s1 := rfl
theorem rng1_int {k : Int} (h : -4611686018427387904 ≤ k ∧ k < 4611686018427387904) : rng1 [.int k] = some (rngL 0 k.toNat) := by
  unfold rng1 small62
  simp only [cl_yes h.1, cl_yes h.2, Bool.and_self, if_true]
theorem rng2_int {j k : Int} (h : -4611686018427387904 ≤ j ∧ j < 4611686018427387904) (h2 : -4611686018427387904 ≤ k ∧ k < 4611686018427387904) : rng2 [.int j, .int k] = some (rngL j (k - j).toNat) := by
  unfold rng2 small62
  simp only [cl_yes h.1, cl_yes h.2, cl_yes h2.1, cl_yes h2.2, Bool.and_self, if_true]
theorem scrO_l {l : List D} : scrO (.lst l) = some l := rfl
theorem scrO_s {l : List Int} : scrO (.scr l) = some (l.map D.int) := rfl
theorem lstO_l {l : List D} : lstO (.lst l) = some l := rfl
theorem tupO_l {l : List D} : tupO (.tup l) = some l := rfl
theorem rngL_map : ∀ (n : Nat) (lo : Int), rngL lo n = (List.range n).map fun i : Nat => D.int (lo + (i : Int))
  | 0, _ => rfl
  | n + 1, lo => by
    rw [rngL, rngL_map n, List.range_succ_eq_map, List.map_cons, List.map_map]
    congr 1
    · simp
    · apply List.map_congr_left
      intro a _
      simp only [Function.comp]
      congr 1
      omega
theorem rngL_len (n : Nat) (lo : Int) : (rngL lo n).length = n := by rw [rngL_map]; simp
def goK (r : F) (k : DL.Env → DS → F) : F := match r with
  | .nx η2 s2 => k η2 s2
  | .ct η2 s2 => k η2 s2
  | .bk η2 s2 => .nx η2 s2
  | r => r
def putK (o : Option DL.Env) (k : DL.Env → F) : F := match o with
  | some η => k η
  | none => .bad
theorem forF_nil {put : D → DL.Env → Option DL.Env} : forF put f [] η s = .nx η s := rfl
theorem forF_cons {put : D → DL.Env → Option DL.Env} {l : List D} : forF put f (d :: l) η s = putK (put d η) fun η1 => goK (f η1 s) (forF put f l) := by
  rw [forF]
  cases put d η with
  | none => rfl
  | some η1 =>
    show (match f η1 s with
      | .nx η2 s2 => forF put f l η2 s2
      | .ct η2 s2 => forF put f l η2 s2
      | .bk η2 s2 => .nx η2 s2
      | r => r) = goK (f η1 s) (forF put f l)
    unfold goK
    generalize f η1 s = r
    cases r <;> rfl
theorem putK_some {k : DL.Env → F} : putK (some η) k = k η := rfl
theorem goK_nx {k : DL.Env → DS → F} : goK (.nx η s) k = k η s := rfl
theorem goK_ct {k : DL.Env → DS → F} : goK (.ct η s) k = k η s := rfl
theorem goK_bk {k : DL.Env → DS → F} : goK (.bk η s) k = .nx η s := rfl
theorem goK_rt {k : DL.Env → DS → F} : goK (.rt d s) k = .rt d s := rfl
theorem goK_ex {k : DL.Env → DS → F} {q : List D} : goK (.ex c q η s) k = .ex c q η s := rfl
theorem lcD_eq {fi : DL.Env → DS → R (List D)} {put : D → DL.Env → Option DL.Env} {vs : List Nat} : lcD fi put ft fa vs η s = (fi η s).bnd fun ds s1 => if ds.length ≤ 16777216 then (lcF put ft fa (wipeE η vs) ds s1).bnd fun ys s2 => .ok (.lst ys) s2 else .bad := rfl
theorem wipeE_nil : wipeE η [] = η := rfl
theorem wipeE_cons {v : Nat} {vs : List Nat} : wipeE η (v :: vs) = (wipeE η vs).set v .no := rfl
theorem yesT_eq : yesT η s = .ok true s := rfl
/-- a comprehension that changes nothing -/
theorem lcF_pure {γ : Type} {put : D → DL.Env → Option DL.Env} (e : γ → D) (t : γ → Bool) (y : γ → D) : ∀ (l : List γ), (∀ a ∈ l, ∃ η1, put (e a) η = some η1 ∧ ft η1 s = .ok (t a) s ∧ (t a = true → fa η1 s = .ok (y a) s)) → lcF put ft fa η (l.map e) s = .ok ((l.filter t).map y) s
  | [], _ => rfl
  | a :: l, h => by
    obtain ⟨η1, e1, e2, e3⟩ := h a List.mem_cons_self
    have ih := lcF_pure e t y l fun b hb => h b (List.mem_cons_of_mem _ hb)
    rw [List.map_cons, lcF, e1]
    simp only [e2, R.nx, R.bind, ih]
    cases q : t a with
    | false => simp only [Bool.false_eq_true, if_false, List.filter_cons, q]
    | true =>
      rw [e3 q]
      simp only [if_true, List.filter_cons, q, List.map_cons, ih]
theorem lcF_map {γ : Type} {put : D → DL.Env → Option DL.Env} (e : γ → D) (y : γ → D) (l : List γ) (h : ∀ a ∈ l, ∃ η1, put (e a) η = some η1 ∧ fa η1 s = .ok (y a) s) : lcF put yesT fa η (l.map e) s = .ok (l.map y) s := by
  rw [lcF_pure e (fun _ => true) y l fun a ha => by
    obtain ⟨η1, e1, e2⟩ := h a ha
    exact ⟨η1, e1, rfl, fun _ => e2⟩]
  rw [List.filter_eq_self.mpr (fun _ _ => rfl)]
end
theorem sIx_some {n d : Nat} {v : Int} (h : 0 ≤ v) : HT.sIx n d (some v) = min v.toNat n := if_neg (by omega)
theorem cut_to {l : List D} {k : Int} (h : 0 ≤ k) : cutD l none (some k) = l.take k.toNat := by
  unfold cutD
  rw [sIx_some h, HT.sIx_none, List.drop_zero, Nat.sub_zero]
  rcases Nat.le_total k.toNat l.length with q | q
  · rw [Nat.min_eq_left q]
  · rw [Nat.min_eq_right q, List.take_length, List.take_of_length_le q]
theorem cut_from {l : List D} {k : Int} (h : 0 ≤ k) : cutD l (some k) none = l.drop k.toNat := by
  unfold cutD
  rw [sIx_some h, HT.sIx_none]
  rcases Nat.le_total k.toNat l.length with q | q
  · rw [Nat.min_eq_left q, List.take_of_length_le (by rw [List.length_drop]; exact Nat.le_refl _)]
  · rw [Nat.min_eq_right q, List.drop_length, List.drop_eq_nil_of_le q]; simp
theorem cut_both {l : List D} {j k : Int} (h : 0 ≤ j) (h2 : 0 ≤ k) : cutD l (some j) (some k) = (l.drop j.toNat).take (k.toNat - j.toNat) := by
  unfold cutD
  rw [sIx_some h, sIx_some h2]
  rcases Nat.le_total j.toNat l.length with q | q
  · rw [Nat.min_eq_left q]
    rcases Nat.le_total k.toNat l.length with p | p
    · rw [Nat.min_eq_left p]
    · rw [Nat.min_eq_right p, List.take_of_length_le (by rw [List.length_drop]; exact Nat.le_refl _), List.take_of_length_le (by rw [List.length_drop]; omega)]
  · rw [Nat.min_eq_right q, List.drop_length, List.drop_eq_nil_of_le q]; simp
theorem opCut_l {l : List D} {j k : Option Int} : opCut (.lst l) j k = some (.lst (cutD l j k)) := rfl
theorem opCut_t {l : List D} {j k : Option Int} : opCut (.tup l) j k = some (.tup (cutD l j k)) := rfl
theorem opCut_s {l : List Int} {j k : Option Int} : opCut (.scr l) j k = some (.lst (cutD (l.map D.int) j k)) := rfl
theorem opPow_int {a b : Int} (h : 0 ≤ b ∧ b ≤ 1000 ∧ -1000000 ≤ a ∧ a ≤ 1000000) : opPow (.int a) (.int b) = some (.int (a ^ b.toNat)) := if_pos (cl_yes h)
theorem opAdd_tup {a b : List D} (h : a.length + b.length ≤ 16777216) : opAdd (.tup a) (.tup b) = some (.tup (a ++ b)) := if_pos h
theorem opAdd_lst {a b : List D} (h : a.length + b.length ≤ 16777216) : opAdd (.lst a) (.lst b) = some (.lst (a ++ b)) := if_pos h
mutual
def okN : Nat → D → Bool
  | _, .non => true
  | _, .bl _ => true
  | _, .int _ => true
  | _, .str x => PyData.strOk x
  | n + 1, .tup l => okNL n l
  | n + 1, .lst l => okNL n l
  | _, _ => false
def okNL : Nat → List D → Bool
  | _, [] => true
  | n, d :: l => okN n d && okNL n l
end
mutual
theorem okN_of : ∀ {n : Nat} {d : D}, okN n d = true → dOk d = true ∧ dDep d ≤ n
  | n, .non, _ => by simp [dOk, dDep]
  | n, .bl _, _ => by simp [dOk, dDep]
  | n, .int _, _ => by simp [dOk, dDep]
  | n, .str x, h => by
    have h1 : PyData.strOk x = true := by simpa [okN] using h
    simp [dOk, dDep, h1]
  | n + 1, .tup l, h => by
    obtain ⟨h1, h2⟩ := okNL_of (n := n) (l := l) (by simpa [okN] using h)
    simp [dOk, dDep, h1, h2]
  | n + 1, .lst l, h => by
    obtain ⟨h1, h2⟩ := okNL_of (n := n) (l := l) (by simpa [okN] using h)
    simp [dOk, dDep, h1, h2]
  | 0, .tup l, h => by simp [okN] at h
  | 0, .lst l, h => by simp [okN] at h
  | _, .dic _, h => by simp [okN] at h
  | _, .obj _ _, h => by simp [okN] at h
  | _, .han _, h => by simp [okN] at h
  | _, .scr _, h => by simp [okN] at h
theorem okNL_of : ∀ {n : Nat} {l : List D}, okNL n l = true → dOkL l = true ∧ dDepL l ≤ n
  | n, [], _ => by simp [dOkL, dDepL]
  | n, d :: l, h => by
    have h0 : okN n d = true ∧ okNL n l = true := by simpa [okNL] using h
    obtain ⟨h1, h2⟩ := okN_of h0.1
    obtain ⟨h3, h4⟩ := okNL_of h0.2
    simp [dOkL, dDepL, h1, h2, h3, h4]
    omega
end
theorem okN_eq {x y : D} {n : Nat} (h : okN n x = true) (h2 : okN n y = true) (hn : n ≤ 60) : eqOk x y = true := by
  obtain ⟨a, b⟩ := okN_of h
  obtain ⟨c, d⟩ := okN_of h2
  unfold eqOk
  simp only [a, c, Bool.and_true, Bool.true_and, Bool.and_eq_true, decide_eq_true_eq]
  omega
theorem opEq_ok {x y : D} (h : okN 9 x = true) (h2 : okN 9 y = true) : opEq x y = some (.bl (eqB x y)) := if_pos (okN_eq h h2 (by omega))
theorem opNe_ok {x y : D} (h : okN 9 x = true) (h2 : okN 9 y = true) : opNe x y = some (.bl (!eqB x y)) := if_pos (okN_eq h h2 (by omega))
theorem okNL_iff {n : Nat} : ∀ {l : List D}, okNL n l = true ↔ ∀ d ∈ l, okN n d = true
  | [] => by simp [okNL]
  | d :: l => by simp [okNL, okNL_iff]
theorem okNL_map {γ : Type} {n : Nat} {e : γ → D} {l : List γ} (h : ∀ a ∈ l, okN n (e a) = true) : okNL n (l.map e) = true := okNL_iff.mpr fun d hd => by
  obtain ⟨a, ha, rfl⟩ := List.mem_map.mp hd
  exact h a ha
theorem okNL_mi {γ : Type} {n : Nat} {f : γ → Int} {l : List γ} : okNL n (l.map fun a => D.int (f a)) = true := okNL_map fun _ _ => by simp [okN]
mutual
theorem eqB_self : ∀ {n : Nat} {d : D}, okN n d = true → eqB d d = true
  | n, .non, _ => by simp [eqB]
  | n, .bl _, _ => by simp [eqB]
  | n, .int _, _ => by simp [eqB]
  | n, .str x, h => by simp [eqB]
  | n + 1, .tup l, h => by
    have := eqBL_self (n := n) (l := l) (by simpa [okN] using h)
    simpa [eqB] using this
  | n + 1, .lst l, h => by
    have := eqBL_self (n := n) (l := l) (by simpa [okN] using h)
    simpa [eqB] using this
  | 0, .tup l, h => by simp [okN] at h
  | 0, .lst l, h => by simp [okN] at h
  | _, .dic _, h => by simp [okN] at h
  | _, .obj _ _, h => by simp [okN] at h
  | _, .han _, h => by simp [okN] at h
  | _, .scr _, h => by simp [okN] at h
theorem eqBL_self : ∀ {n : Nat} {l : List D}, okNL n l = true → eqBL l l = true
  | n, [], _ => by simp [eqBL]
  | n, d :: l, h => by
    have h0 : okN n d = true ∧ okNL n l = true := by simpa [okNL] using h
    simp [eqBL, eqB_self h0.1, eqBL_self h0.2]
end
theorem opNe_self {x : D} (h : okN 9 x = true) : opNe x x = some (.bl false) := by
  rw [opNe_ok h h, eqB_self h]
  rfl
theorem opEq_self {x : D} (h : okN 9 x = true) : opEq x x = some (.bl true) := by
  rw [opEq_ok h h, eqB_self h]
theorem opEq_lnil {d : D} {l : List D} (h : okN 9 (.lst (d :: l)) = true) : opEq (.lst (d :: l)) (.lst []) = some (.bl false) := by
  rw [opEq_ok h (by simp [okN, okNL])]
  simp [eqB, eqBL]
theorem opNe_lnil {d : D} {l : List D} (h : okN 9 (.lst (d :: l)) = true) : opNe (.lst (d :: l)) (.lst []) = some (.bl true) := by
  rw [opNe_ok h (by simp [okN, okNL])]
  simp [eqB, eqBL]
theorem opEq_nn : opEq (.lst []) (.lst []) = some (.bl true) := opEq_self (by simp [okN, okNL])
theorem opNe_nn : opNe (.lst []) (.lst []) = some (.bl false) := opNe_self (by simp [okN, okNL])
theorem opNe_is {a : Int} {x : Str} (h : PyData.strOk x = true) : opNe (.int a) (.str x) = some (.bl true) := by
  rw [opNe_ok (by simp [okN]) (by simpa [okN] using h)]
  simp [eqB]
theorem opEq_is {a : Int} {x : Str} (h : PyData.strOk x = true) : opEq (.int a) (.str x) = some (.bl false) := by
  rw [opEq_ok (by simp [okN]) (by simpa [okN] using h)]
  simp [eqB]
theorem opNe_si {a : Int} {x : Str} (h : PyData.strOk x = true) : opNe (.str x) (.int a) = some (.bl true) := by
  rw [opNe_ok (by simpa [okN] using h) (by simp [okN])]
  simp [eqB]
theorem opEq_si {a : Int} {x : Str} (h : PyData.strOk x = true) : opEq (.str x) (.int a) = some (.bl false) := by
  rw [opEq_ok (by simpa [okN] using h) (by simp [okN])]
  simp [eqB]
theorem opNe_ss {x y : Str} (h : PyData.strOk x = true) (h2 : PyData.strOk y = true) : opNe (.str x) (.str y) = some (.bl (!(x == y))) := by
  rw [opNe_ok (by simpa [okN] using h) (by simpa [okN] using h2)]
  simp [eqB]
theorem opEq_ss {x y : Str} (h : PyData.strOk x = true) (h2 : PyData.strOk y = true) : opEq (.str x) (.str y) = some (.bl (x == y)) := by
  rw [opEq_ok (by simpa [okN] using h) (by simpa [okN] using h2)]
  simp [eqB]
theorem opNe_bb {a b : Bool} : opNe (.bl a) (.bl b) = some (.bl (!(a == b))) := by
  rw [opNe_ok (by simp [okN]) (by simp [okN])]
  simp [eqB]
theorem opEq_bb {a b : Bool} : opEq (.bl a) (.bl b) = some (.bl (a == b)) := by
  rw [opEq_ok (by simp [okN]) (by simp [okN])]
  simp [eqB]
section
variable {η : DL.Env} {s : DS} {ft : DL.Env → DS → R Bool} {fe : DL.Env → DS → R D} {put : D → DL.Env → Option DL.Env} {d : D} {ds : List D}
def lcPut (o : Option DL.Env) (k : DL.Env → R (List D)) : R (List D) := match o with
  | some η => k η
  | none => .bad
theorem lcPut_some {k : DL.Env → R (List D)} : lcPut (some η) k = k η := rfl
theorem lcF_nil : lcF put ft fe η [] s = .ok [] s := rfl
theorem lcF_cons : lcF put ft fe η (d :: ds) s = lcPut (put d η) fun η1 => (ft η1 s).nx.bnd fun b s1 => if b = true then (fe η1 s1).nx.bnd fun y s2 => (lcF put ft fe η ds s2).bnd fun ys s3 => .ok (y :: ys) s3 else lcF put ft fe η ds s1 := by
  rw [lcF]
  cases put d η <;> rfl
end
end DL
set_option Elab.async false
set_option linter.all false
set_option maxRecDepth 100000
set_option maxHeartbeats 2000000
namespace DL
open PySem PySem.Spec PyProof.Rows L2
def keepE : List Bool → Env → Env
  | true :: bs, x :: η => x :: keepE bs η
  | false :: bs, _ :: η => .no :: keepE bs η
  | [], η => η
  | _ :: _, [] => []
theorem keepE_len : ∀ (bs : List Bool) (η : Env), (keepE bs η).length = η.length
  | true :: bs, x :: η => by simp [keepE, keepE_len bs η]
  | false :: bs, x :: η => by simp [keepE, keepE_len bs η]
  | [], η => by cases η <;> rfl
  | true :: _, [] => rfl
  | false :: _, [] => rfl
theorem keepE_get : ∀ {bs : List Bool} {η : Env} {j : Nat} {x : Sl}, (keepE bs η)[j]? = some x → x ≠ .no → η[j]? = some x
  | true :: bs, y :: η, 0, x, h, _ => by simpa [keepE] using h
  | true :: bs, y :: η, j + 1, x, h, n => by
    rw [List.getElem?_cons_succ]
    exact keepE_get (bs := bs) (by simpa [keepE] using h) n
  | false :: bs, y :: η, 0, x, h, n => by
    simp [keepE] at h
    exact absurd h.symm n
  | false :: bs, y :: η, j + 1, x, h, n => by
    rw [List.getElem?_cons_succ]
    exact keepE_get (bs := bs) (by simpa [keepE] using h) n
  | [], η, j, x, h, _ => by
    have e : keepE [] η = η := by cases η <;> rfl
    rw [e] at h
    exact h
  | true :: _, [], j, x, h, _ => by simp [keepE] at h
  | false :: _, [], j, x, h, _ => by simp [keepE] at h
def F.wip (is : List Bool) : F → F
  | .nx η s => .nx (keepE is η) s
  | .bk η s => .bk (keepE is η) s
  | .ct η s => .ct (keepE is η) s
  | r => r
def wipB (is : List Bool) (f : Env → DS → F) : Env → DS → F := fun η s => (f η s).wip is
def preB (is : List Bool) (f : Env → DS → F) : Env → DS → F := fun η s => f (keepE is η) s
section
variable {M : Mp} {X : Cx} {W : WX} {K : PySem.W.Frag}
theorem Sm.forget {A : Anc} {σ : L2.St} {H G : Hp} {hs : List Addr} {own : Nat → Addr} {η : Env} {s : DS} (I : Sm K M A σ H G hs own η s) (vs : List Bool) : Sm K M A σ H G hs own (keepE vs η) s :=
  ⟨I.sim, I.stp, fun i d e => I.pl i d (keepE_get e (fun z => by cases z)), fun i d e => I.ow i d (keepE_get e (fun z => by cases z)),
    fun i j d d' e1 e2 => I.inj i j d d' (keepE_get e1 (fun z => by cases z)) (keepE_get e2 (fun z => by cases z)), by rw [keepE_len]; exact I.el, fun x d ex e => I.sf x d ex (keepE_get e (fun z => by cases z))⟩
theorem FPost.wip {A : Anc} {E : Ends} {is : List Bool} : ∀ {r : F}, FPost K M A W E (r.wip is) → FPost K M A W E r
  | .nx η s, h => fun σ H G hs own I => h σ H G hs own (I.forget is)
  | .bk η s, h => fun σ H G hs own I => h σ H G hs own (I.forget is)
  | .ct η s, h => fun σ H G hs own I => h σ H G hs own (I.forget is)
  | .rt d s, h => h
  | .ex c p η s, h => h
  | .bad, h => h
variable {st : Stmt} {sts : List Stmt} {g : Env → DS → F}
theorem ds_wip (is : List Bool) (h : DSt M X W st g) : DSt M X W st (wipB is g) := by
  obtain ⟨t, p, h⟩ := h.ex
  exact ⟨t, p, fun A σ H G hs own η s E I hp => h A σ H G hs own η s E I hp.wip⟩
theorem dss_wip (is : List Bool) (h : DSs M X W sts g) : DSs M X W sts (wipB is g) := by
  obtain ⟨t, p, h⟩ := h.ex
  exact ⟨t, p, fun A σ H G hs own η s E I hp => h A σ H G hs own η s E I hp.wip⟩
def forW (bs : List Bool) (fi : Env → DS → R (List D)) (put : D → Env → Option Env) (body : Env → DS → F) : Env → DS → F := fun η s => (fi η s).toF η fun ds s1 => forF put body ds (keepE bs η) s1
theorem ds_forW {tg e : Expr} (bs : List Bool) {body : List Stmt} {fi : Env → DS → R (List D)} {put : D → Env → Option Env} {g : Env → DS → F} {is : List Nat} {pos : Pos} (hp : PassesOwn (model X.prog X.w) X.A X.env X.xe) (hc : X.calm = true) (hi : DI M X W tg e fi) (hg : DG M X tg put is) (hb : DSs M X W body g)
    (hs : ∀ x, foldedSetIterable e X.env x = pure x := by intro _; rfl) : DSt M X W (.For tg e body [] pos) (forW bs fi put g) := by
  obtain ⟨wi, pi, ki⟩ := hi.ex
  obtain ⟨tgt, pg, kg⟩ := hg.ex
  obtain ⟨tb, pb, kb⟩ := hb.ex
  refine ⟨_, ps_for hp hc pi pg pb hs, fun A σ H G hs own η s E I hp => ?_⟩
  refine ki A σ H G hs own η s _ I ((hp.lift I).mono fun ds G1 hs1 s1 H1 S1 J1 h1 J hJ => ?_)
  obtain ⟨A', rfl, rfl, le, I1⟩ := ((I.step S1 J1).forget bs).anew
  refine ⟨fun i m σ H => ∃ G hs own η s, Sm X.K M A' σ H G hs own η s ∧ m = ds.length - i ∧ i ≤ ds.length ∧ FPost X.K M A' W E (forF put g (ds.drop i) η s), ⟨ds.length, _, _, own, keepE bs η, s1, I1, rfl, Nat.zero_le _, le.post h1⟩, ?_⟩
  rintro i m σ2 H2 ⟨G2, hs2, own2, η2, s2, I2, rfl, hil, h2⟩
  obtain ⟨stop, go⟩ := hJ G2 hs2 s2 H2 I2.stp.gg I2.stp.hp I2.sim i
  cases q : ds[i]? with
  | none =>
    have hn : ds.drop i = [] := List.drop_eq_nil_of_le (List.getElem?_eq_none_iff.mp q)
    rw [hn] at h2
    exact .inl ⟨stop q, h2 σ2 H2 G2 hs2 own2 I2⟩
  | some d =>
    have hlt : i < ds.length := (List.getElem?_eq_some_iff.mp q).1
    obtain ⟨go1, go2⟩ := go d q
    have hd : ds.drop i = d :: ds.drop (i + 1) := by
      rw [List.drop_eq_getElem_cons hlt]
      congr 1
      rw [List.getElem?_eq_getElem hlt] at q
      exact Option.some.inj q
    rw [hd, forF] at h2
    refine .inr ⟨go1, fun σ' H' => ∃ G hs own η s, Sm X.K M A' σ' H' G hs own η s ∧ FPost X.K M A' W E (forF put g (ds.drop (i + 1)) η s), fun σ' H' ⟨G, hs, own, η, s, a, b⟩ => ⟨ds.length - (i + 1), by omega, G, hs, own, η, s, a, rfl, hlt, b⟩, fun x H' y => ?_⟩
    obtain ⟨G3, S3, J3, hx⟩ := go2 x H' y
    have I3 := I2.step S3 J3
    split at h2
    · exact h2.elim
    · rename_i η3 e3
      refine kg A' σ2 H' G3 hs2 own2 η2 η3 s2 d x _ I3 hx e3 fun σ4 I4 _ => ?_
      refine kb A' σ4 H' G3 hs2 own2 η3 s2 _ I4 ?_
      cases r : g η3 s2 with
      | nx η5 s5 => rw [r] at h2; exact fun σ H G hs own I => ⟨G, hs, own, η5, s5, I, h2⟩
      | ct η5 s5 => rw [r] at h2; exact fun σ H G hs own I => ⟨G, hs, own, η5, s5, I, h2⟩
      | bk η5 s5 => rw [r] at h2; exact h2
      | rt d s5 => rw [r] at h2; exact h2
      | ex c p η5 s5 => rw [r] at h2; exact h2
      | bad => rw [r] at h2; exact h2
end
section
variable {η : DL.Env} {s : DS} {f : DL.Env → DS → F} {is : List Bool} {c : Nat} {p : List D} {d : D}
theorem wipB_eq : wipB is f η s = (f η s).wip is := rfl
theorem forW_eq {bs : List Bool} {fi : DL.Env → DS → R (List D)} {put : D → DL.Env → Option DL.Env} : forW bs fi put f η s = (fi η s).toF η fun ds s1 => forF put f ds (keepE bs η) s1 := rfl
theorem preB_eq : preB is f η s = f (keepE is η) s := rfl
theorem wip_nx : (F.nx η s).wip is = .nx (keepE is η) s := rfl
theorem wip_bk : (F.bk η s).wip is = .bk (keepE is η) s := rfl
theorem wip_ct : (F.ct η s).wip is = .ct (keepE is η) s := rfl
theorem wip_rt : (F.rt d s).wip is = .rt d s := rfl
theorem wip_ex : (F.ex c p η s).wip is = .ex c p η s := rfl
theorem keep_t {b : Sl} {bs : List Bool} : keepE (true :: bs) (b :: η) = b :: keepE bs η := rfl
theorem keep_f {b : Sl} {bs : List Bool} : keepE (false :: bs) (b :: η) = .no :: keepE bs η := rfl
theorem keep_n : keepE [] η = η := by cases η <;> rfl
theorem wip_bad : F.bad.wip is = .bad := rfl
end
section
variable {γ τ : Type} {η : DL.Env} {s : DS} {f : DL.Env → DS → F} {ft : DL.Env → DS → R Bool} {put : D → DL.Env → Option DL.Env}
/-- one turn, whatever it says -/
def turnF (put : D → DL.Env → Option DL.Env) (f : DL.Env → DS → F) (d : D) (η : DL.Env) (s : DS) : F := putK (put d η) fun η1 => f η1 s
theorem turnF_eq {d : D} : turnF put f d η s = putK (put d η) fun η1 => f η1 s := rfl
theorem forF_cons2 {d : D} {l : List D} : forF put f (d :: l) η s = goK (turnF put f d η s) (forF put f l) := by
  rw [forF_cons]
  unfold turnF
  cases put d η <;> rfl
/-- the state a relation -/
theorem forF_rel (I : List γ → DL.Env → DS → Prop) (e : γ → D) (l : List γ) (h0 : I [] η s) (k : ∀ (pre : List γ) (a : γ) (post : List γ) (η : DL.Env) (s : DS), l = pre ++ a :: post → I pre η s → ∃ η2 s2, turnF put f (e a) η s = .nx η2 s2 ∧ I (pre ++ [a]) η2 s2) :
    ∃ η2 s2, forF put f (l.map e) η s = .nx η2 s2 ∧ I l η2 s2 := by
  have key : ∀ (post pre : List γ) (η : DL.Env) (s : DS), l = pre ++ post → I pre η s → ∃ η2 s2, forF put f (post.map e) η s = .nx η2 s2 ∧ I l η2 s2 := by
    intro post
    induction post with
    | nil =>
      intro pre η s hl h
      rw [List.append_nil] at hl
      subst hl
      exact ⟨η, s, rfl, h⟩
    | cons a post ih =>
      intro pre η s hl h
      obtain ⟨η2, s2, h1, h2⟩ := k pre a post η s hl h
      rw [List.map_cons, forF_cons2, h1, goK_nx]
      exact ih (pre ++ [a]) η2 s2 (by rw [hl]; simp) h2
  exact key l [] η s rfl h0
end
section
variable {η : DL.Env} {s : DS} {d : D} {i : Nat}
def asgO (o : Option DL.Env) (s : DS) : F := match o with
  | some η => .nx η s
  | none => .bad
theorem asgO_s : asgO (some η) s = .nx η s := rfl
theorem asgK_eq {f : D → DL.Env → Option DL.Env} : asgK f η d s = asgO (f d η) s := by
  unfold asgK asgO
  generalize f d η = o
  cases o <;> rfl
theorem asgFK_eq {is : List Nat} {l : List Sl} : asgFK is η l s = asgO (putS is l η) s := by
  unfold asgFK asgO
  generalize putS is l η = o
  cases o <;> rfl
theorem putS_nil : putS [] [] η = some η := rfl
theorem putS_v {is : List Nat} {l : List Sl} : putS (i :: is) (.v d :: l) η = if i < η.length then putS is l (η.set i (.v d)) else none := by rw [putS]
theorem putS_o {is : List Nat} {l : List Sl} : putS (i :: is) (.o d :: l) η = if 0 < i ∧ i < η.length then putS is l (η.set i (.o d)) else none := by rw [putS]
end
end DL
set_option Elab.async false
set_option linter.all false
set_option maxRecDepth 100000
set_option maxHeartbeats 2000000
namespace DL
open PySem PySem.Spec PyProof.Rows L2
inductive Sh where
  | int | bl | str | tup (l : List Sh) | row (s : Sh) | lst (s : Sh)
mutual
def D.has : D → Sh → Bool
  | .int _, .int => true
  | .bl _, .bl => true
  | .str x, .str => PyData.strOk x
  | .tup ds, .tup ss => hasL ds ss
  | .tup ds, .row s => hasA ds s
  | .lst ds, .lst s => hasA ds s
  | _, _ => false
def hasL : List D → List Sh → Bool
  | [], [] => true
  | d :: ds, s :: ss => D.has d s && hasL ds ss
  | _, _ => false
def hasA : List D → Sh → Bool
  | [], _ => true
  | d :: ds, s => D.has d s && hasA ds s
end
mutual
theorem has_alike : ∀ (d e : D) (s : Sh), d.has s = true → e.has s = true → alikeD d e = true
  | .int _, e, s, h, g => by
    cases s <;> simp_all [D.has]
    cases e <;> simp_all [D.has, alikeD, toPD, PySem.W.alike]
  | .bl _, e, s, h, g => by
    cases s <;> simp_all [D.has]
    cases e <;> simp_all [D.has, alikeD, toPD, PySem.W.alike]
  | .str _, e, s, h, g => by
    cases s <;> simp_all [D.has]
    cases e <;> simp_all [D.has, alikeD, toPD, PySem.W.alike]
  | .tup ds, e, s, h, g => by
    cases s with
    | tup ss =>
      cases e with
      | tup es =>
        have := hasL_alike ds es ss (by simpa [D.has] using h) (by simpa [D.has] using g)
        simpa [alikeD, toPD, PySem.W.alike] using this
      | _ => simp_all [D.has]
    | row s =>
      cases e with
      | tup es =>
        have := hasA_alike ds es s (by simpa [D.has] using h) (by simpa [D.has] using g)
        simpa [alikeD, toPD, PySem.W.alike] using this
      | _ => simp_all [D.has]
    | _ => simp_all [D.has]
  | .lst ds, e, s, h, g => by
    cases s with
    | lst s =>
      cases e with
      | lst es =>
        have := hasA_alike ds es s (by simpa [D.has] using h) (by simpa [D.has] using g)
        simpa [alikeD, toPD, PySem.W.alike] using this
      | _ => simp_all [D.has]
    | _ => simp_all [D.has]
  | .non, _, s, h, _ => by cases s <;> simp_all [D.has]
  | .dic _, _, s, h, _ => by cases s <;> simp_all [D.has]
  | .obj _ _, _, s, h, _ => by cases s <;> simp_all [D.has]
  | .han _, _, s, h, _ => by cases s <;> simp_all [D.has]
  | .scr _, _, s, h, _ => by cases s <;> simp_all [D.has]
  | .tup0 _, _, s, h, _ => by cases s <;> simp_all [D.has]
  | .dit _, _, s, h, _ => by cases s <;> simp_all [D.has]
  | .clo _ _, _, s, h, _ => by cases s <;> simp_all [D.has]
theorem hasL_alike : ∀ (d e : List D) (s : List Sh), hasL d s = true → hasL e s = true → PySem.W.alikeAll (toPDL d) (toPDL e) = true
  | [], e, s, _, _ => by cases e <;> simp [toPDL, PySem.W.alikeAll]
  | d :: ds, e, s, h, g => by
    cases s with
    | nil => simp_all [hasL]
    | cons s ss =>
      cases e with
      | nil => simp_all [hasL]
      | cons e es =>
        have h1 : d.has s = true ∧ hasL ds ss = true := by simpa [hasL] using h
        have g1 : e.has s = true ∧ hasL es ss = true := by simpa [hasL] using g
        have a := has_alike d e s h1.1 g1.1
        have b := hasL_alike ds es ss h1.2 g1.2
        unfold alikeD at a
        simp [toPDL, PySem.W.alikeAll, a, b]
theorem hasA_alike : ∀ (d e : List D) (s : Sh), hasA d s = true → hasA e s = true → PySem.W.alikeAll (toPDL d) (toPDL e) = true
  | [], e, s, _, _ => by cases e <;> simp [toPDL, PySem.W.alikeAll]
  | d :: ds, e, s, h, g => by
    cases e with
    | nil => simp [toPDL, PySem.W.alikeAll]
    | cons e es =>
      have h1 : d.has s = true ∧ hasA ds s = true := by simpa [hasA] using h
      have g1 : e.has s = true ∧ hasA es s = true := by simpa [hasA] using g
      have a := has_alike d e s h1.1 g1.1
      have b := hasA_alike ds es s h1.2 g1.2
      unfold alikeD at a
      simp [toPDL, PySem.W.alikeAll, a, b]
end
theorem likeAll_sh {l : List D} (s : Sh) (h : ∀ d ∈ l, okN 9 d = true ∧ d.has s = true) : likeAll l = true := by
  obtain ⟨h1, h2⟩ := okNL_of (n := 9) (l := l) (okNL_iff.mpr fun d hd => (h d hd).1)
  unfold likeAll
  simp only [Bool.and_eq_true, decide_eq_true_eq, List.all_eq_true]
  refine ⟨⟨⟨h1, by omega⟩, fun x hx y hy => has_alike x y s (h x hx).2 (h y hy).2⟩, fun x hx => ?_⟩
  have := (h x hx).2
  cases x <;> simp_all [D.has]
def Tru (r : F) : Prop := ∃ s', fnK r = .ok (.bl true) s'
section
variable {η η' : DL.Env} {s s' : DS} {f g : DL.Env → DS → F} {n : Nat} {l : List D}
theorem Tru.of (h : Tru (f (padE n (l.map .v)) s)) : ∃ s', fnD n f l s = .ok (.bl true) s' := h
theorem Tru.step (h : f η s = .nx η' s') (k : Tru (g η' s')) : Tru ((f η s).then g) := by rw [h]; exact k
end
def Nxt (m : List Bool) (E : DL.Env) (r : F) : Prop := ∃ s', r.wip m = .nx E s'
section
variable {η η' E : DL.Env} {s s' : DS} {f g : DL.Env → DS → F} {m : List Bool}
theorem Nxt.step (h : f η s = .nx η' s') (k : Nxt m E (g η' s')) : Nxt m E ((f η s).then g) := by rw [h]; exact k
end
end DL
set_option Elab.async false
set_option linter.all false
set_option maxRecDepth 100000
set_option maxHeartbeats 2000000
namespace DL
open PySem PySem.Spec PyProof.Rows L2
abbrev gEnv (X : Cx) (scope : Scope) (C : Addr) (code : Value) : PySem.Env := genEnv scope (cloFrom X.env.cells scope.names []) C code builtinsNs X.env
abbrev GC (X : Cx) (A : Around) (s : Shared) (H : Hp) (scope : Scope) (C : Addr) (code : Value) (fp : List Addr) : Cx :=
  { X with A := A.deeper (gEnv X scope C code), s_0 := s, H_0 := H, env := gEnv X scope C code, outer := X.stack, stack := gEnv X scope C code :: X.stack, ex := fp, fn := fun _ => false, pn := [], xe := fun _ _ => False }
/-- the names of its frame: no cells of its own -/
def genC (N : List Str) (sc scope : Scope) (own : List (Str × Nat)) : Bool := blkC N sc scope own && scope.names.all (fun y => y.2 != .cell) && (scope.isCoroutine == false) && (scope.names.lookup (".0" : Str) == some NameKind.local)
section
variable {X : Cx} {pins : List (Addr × Obj)} {σ : L2.St} {H : Hp} {s : Shared}
theorem gen_start {A : Around} {scope : Scope} {own : List (Str × Nat)} {fp : List Addr} {code : Value} {h1 : Heap} {tk : Nat} {g' : Array GenState} {m0 : Str → Option Value} (I : Inv X pins σ H s) (ok : BlkOk X.N X.env.scope scope own) (hno : ∀ y ∈ scope.names, y.2 ≠ .cell) (hN : X.N.Nodup)
    (hfp : ∀ b ∈ fp, FpOk X pins H b ∧ b < s.heap.objs.size) (hA : A.handled = none) (hF : A.frames = some X.stack) (hns : h1.Ns s.heap.objs.size m0) (kp : ∀ b o, s.heap.get? b = some o → h1.get? b = some o) (hg : AllBare g') :
    Inv (GC X A s H scope s.heap.objs.size code fp) [] (wipe σ (own.map (·.2))) H { s with heap := h1, gens := g', toks := tk } := by
  have hfree : ∀ y ∈ scope.names, y.2 = .free → ∃ c, X.env.cells.lookup y.1 = some c := fun y hy e => by
    rcases ok.free y hy e with k | k
    · exact I.ok.has _ (.inl k)
    · exact I.ok.has _ (.inr k)
  have cm : ∀ {y c}, (cloFrom X.env.cells scope.names []).lookup y = some c → X.env.cells.lookup y = some c ∧ c < s.heap.objs.size := fun {y c} e => by
    rcases cloFrom_mem (PySem.mem_of_lookup e) with hm | ⟨q1, q2⟩
    · cases hm
    · obtain ⟨c', hc⟩ := hfree _ q1 rfl
      have hc' : X.env.cells.lookup y = some c' := hc
      have e2 : c = c' := by
        have q3 : c = (X.env.cells.lookup y).getD 0 := q2
        rw [q3, hc']
        rfl
      obtain ⟨u, z⟩ := I.cell _ _ hc'
      rw [e2]
      exact ⟨hc', z.lt⟩
  have look : ∀ {y}, scope.names.lookup y = some .free → ∃ c, (cloFrom X.env.cells scope.names []).lookup y = some c := fun {y} hl => by
    have hy : (y, NameKind.free) ∈ scope.names := PySem.mem_of_lookup hl
    exact mem_lookup (cloFrom_has (cells := X.env.cells) (acc := []) hy)
  refine ⟨⟨I.ok.mod, ok.kind, I.ok.glob, rfl, Nat.le_refl _, fun y z c e1 e2 => I.ok.inj y z c (cm e1).1 (cm e2).1, fun y hy => ?_, fun y c z _ => (by cases z), fun _ => hA, Around.frames_deeper hF, .inr ⟨rfl, rfl⟩, fun b hb => ⟨Nat.ne_of_lt (hfp b hb).2, fun y c e z => (hfp b hb).1.2.2.2.2.1 y c (cm e).1 z⟩,
    I.bs, Nat.le_trans I.ok.bsz I.sz, fun b o e hb => ?_, fun b hb z => ?_, I.stack, I.stkFree⟩, rfl, hg, Un.kept kp, ⟨_, hns, fun i y v e1 e2 e3 => ?_⟩, fun y c e => ?_, I.hok.fresh (Nat.le_refl _), fun y c e => I.freeC y c (cm e).1, fun p hp => absurd (show p ∈ ([] : List (Addr × Obj)) ++ [] from hp) (by simp), I.hok.kept kp, by rw [wipe_length]; exact I.len⟩
  · rcases hy with k | k
    · have k : scope.names.lookup y = some .cell := k
      exact absurd rfl (hno _ (PySem.mem_of_lookup k))
    · exact look k
  · rcases (hfp b hb).1.2.2.2.1 with z | z
    · exact I.ok.noex b o e z
    · exact absurd (Nat.lt_of_lt_of_le (Heap.lt_size e) (Nat.le_trans I.ok.bsz z)) (Nat.lt_irrefl _)
  · rcases List.mem_cons.mp (I.stkSub b z) with q | q
    · exact (hfp b hb).1.2.1 q
    · exact (hfp b hb).1.2.2.1 q
  · obtain ⟨e2, hne⟩ := wipe_some e2
    have hfr : scope.names.lookup y = some .free := by
      have no : ∀ k, scope.names.lookup y = some k → ¬ (k = .local ∨ k = .cell) := fun k e hh => by
        rcases ok.own _ (PySem.mem_of_lookup e) hh with q | q
        · obtain ⟨p, hp, hpy⟩ := List.mem_map.mp q
          have e3 := ok.ix p hp
          have q3 : p.1 = y := hpy
          rw [q3] at e3
          exact hne (List.mem_map.mpr ⟨p, hp, nodup_ix hN e3 e1⟩)
        · exact q (List.mem_of_getElem? e1)
      have e3 : Vis scope y := e3
      rcases e3 with k | k | k
      · exact absurd (.inl rfl) (no _ k)
      · exact absurd (.inr rfl) (no _ k)
      · exact k
    obtain ⟨m, hn, hl⟩ := I.loc
    have hvis : Vis X.env.scope y := (ok.free _ (PySem.mem_of_lookup hfr) rfl).elim (fun k => .inr (.inl k)) (fun k => .inr (.inr k))
    obtain ⟨w, r, q⟩ := hl i y v e1 e2 hvis
    obtain ⟨c, h2⟩ := look hfr
    refine ⟨w, r, .inr ⟨.inr hfr, c, h2, ?_⟩⟩
    rcases q with ⟨k, _⟩ | ⟨_, c', e', z⟩
    · have k : X.env.scope.names.lookup y = some .local := k
      rcases ok.free _ (PySem.mem_of_lookup hfr) rfl with k' | k' <;> rw [show X.env.scope.names.lookup y = _ from k'] at k <;> cases k
    · rw [(cm h2).1] at e'
      cases e'
      exact z.keeps kp
  · obtain ⟨u, z⟩ := I.cell y c (cm e).1
    exact ⟨u, z.keeps kp⟩
end
def genO (a : Addr) (g : Nat) : HO := .ext fun h => h.IsGen a g
theorem genO_nofix {a : Addr} {g : Nat} : ¬ fixO (genO a g) := by
  rintro (⟨_, z⟩ | ⟨φ, z, c, q, k⟩)
  · cases z
  · cases z
    have hg : ∀ b, (⟨Array.replicate (a + 1) ⟨.type "generator", none, .fields #[.int g 0, .none, .none], #[]⟩, {}⟩ : Heap).get? b = if b < a + 1 then some ⟨.type "generator", none, .fields #[.int g 0, .none, .none], #[]⟩ else none := fun b => by
      unfold Heap.get?
      by_cases h : b < a + 1
      · rw [if_pos h]
        simp [h]
      · rw [if_neg h]
        simp [h]
    obtain ⟨oc, vs, t, h1, h2, h3⟩ := k ⟨Array.replicate (a + 1) ⟨.type "generator", none, .fields #[.int g 0, .none, .none], #[]⟩, {}⟩ ⟨_, .none, .none, by rw [hg, if_pos (Nat.lt_succ_self a)], rfl, rfl, rfl⟩
    rw [hg] at h1
    split at h1
    · cases h1
      cases h2
      simp at h3
    · cases h1
section
variable {X : Cx} {B : Around} {s3 : Shared} {H3 : Hp} {scope : Scope} {C : Addr} {code : Value} {fp : List Addr} {it : Addr} {tn : Nat → Heap → Prop} {J : It} {elt tg iter : Expr} {ifs : List Expr} {pos : Pos} {g : TG} {tt : TT} {te : TE} {vs : List Nat} {σ0 : L2.St}
  {Bd : Nat → Nat → Prop} {W : Nat → Nat → Nat → Hp → Prop} {VV : Nat → Nat → Nat → V → Hp → Prop} {QE : Nat → Hp → Prop}
/-- it waits ahead of item i -/
def Pend (cx : Cx) (σ0 : L2.St) (fp : List Addr) (tn : Nat → Heap → Prop) (Bd : Nat → Nat → Prop) (W : Nat → Nat → Nat → Hp → Prop) (n : Nat) (s : Shared) : Prop :=
  ∃ i m H, Bd n m ∧ L2.Inv cx [] σ0 H s ∧ tn i s.heap ∧ (∀ b ∈ fp, H b = none) ∧ W n i m H
def Yok (cx : Cx) (σ0 : L2.St) (fp : List Addr) (tn : Nat → Heap → Prop) (Bd : Nat → Nat → Prop) (VV : Nat → Nat → Nat → V → Hp → Prop) (n : Nat) (v : Value) (s : Shared) : Prop :=
  ∃ i m H y, Bd (n + 1) m ∧ L2.Inv cx [] σ0 H s ∧ tn (i + 1) s.heap ∧ (∀ b ∈ fp, H b = none) ∧ L2.RelV y v ∧ VV (n + 1) i m y H
def GEnd (cx : Cx) (σ0 : L2.St) (QE : Nat → Hp → Prop) (n : Nat) (s : Shared) : Prop := ∃ H, L2.Inv cx [] σ0 H s ∧ QE n H
abbrev gR (cx : Cx) (σ0 : L2.St) (QE : Nat → Hp → Prop) : GenEnd := fun n _ r s1 => r = .ok .next ∧ GEnd cx σ0 QE n s1
abbrev gY (cx : Cx) (σ0 : L2.St) (fp : List Addr) (tn : Nat → Heap → Prop) (Bd : Nat → Nat → Prop) (W : Nat → Nat → Nat → Hp → Prop) (VV : Nat → Nat → Nat → V → Hp → Prop) : Protocol := fun n _ v s1 kap => Yok cx σ0 fp tn Bd VV n v s1 ∧ ∀ s2, Pend cx σ0 fp tn Bd W n s2 → kap (.send .none) s2
theorem seg_gen (hB1 : ∀ n m, Bd n m → 0 < n) (hB2 : ∀ n m m', Bd n m → m' < m → Bd n m') (hc : X.calm = true) (hco : scope.isCoroutine = false) (T : Turn X.prog X.w X.K tg J fp it tn) (pg : PG (GC X B s3 H3 scope C code fp) tg g) (pt : PTs (GC X B s3 H3 scope C code fp) ifs tt) (pe : PE (GC X B s3 H3 scope C code fp) elt te)
    (hσ : wipe σ0 vs = σ0) (turn : ∀ n i m H, W n i m H → (J.stop i H ∧ QE n H) ∨ (J.go i H ∧ ∀ x H', J.yld i H x H' → g x σ0 H' fun σ2 H2 => wipe σ2 vs = σ0 ∧ tt σ2 H2 fun b H3 => if b = true then te σ2 H3 fun y H4 => VV n i m y H4 else ∃ m', m' < m ∧ W n (i + 1) m' H3)) :
    ∀ (n m : Nat), Bd n m → ∀ (s0 s : Shared) (i : Nat) (H : Hp), L2.Inv (GC X B s3 H3 scope C code fp) [] σ0 H s → tn i s.heap → (∀ b ∈ fp, H b = none) → W n i m H →
      Seg (model X.prog X.w) B (gR (GC X B s3 H3 scope C code fp) σ0 QE) (gY (GC X B s3 H3 scope C code fp) σ0 fp tn Bd W VV) n s0 (.compLoop (.GeneratorExp elt [⟨tg, iter, ifs, 0⟩] scope pos) 0 (.ref it) .none (gEnv X scope C code))
        ((model X.prog X.w).den (.compLoop (.GeneratorExp elt [⟨tg, iter, ifs, 0⟩] scope pos) 0 (.ref it) .none (gEnv X scope C code))) [] s := by
  have stat : ∀ {σ' : L2.St} {H' : Hp} {s' : Shared}, L2.Inv (GC X B s3 H3 scope C code fp) [] σ' H' s' → (∀ b ∈ fp, H' b = none) → ∀ b ∈ fp, FpOk (GC X B s3 H3 scope C code fp) [] H' b := fun {σ' H' s'} I' hn b hb =>
    ⟨hn b hb, (I'.ok.exf b hb).1, I'.ok.exfs b hb, .inl hb, fun x c e => (I'.ok.exf b hb).2 x c e, fun p hp => absurd (show p ∈ ([] : List (Addr × Obj)) ++ [] from hp) (by simp)⟩
  have key : ∀ (n m : Nat), (∀ n' < n, ∀ m', Bd n' m' → ∀ (s0 s : Shared) (i : Nat) (H : Hp), L2.Inv (GC X B s3 H3 scope C code fp) [] σ0 H s → tn i s.heap → (∀ b ∈ fp, H b = none) → W n' i m' H →
      Seg (model X.prog X.w) B (gR (GC X B s3 H3 scope C code fp) σ0 QE) (gY (GC X B s3 H3 scope C code fp) σ0 fp tn Bd W VV) n' s0 (.compLoop (.GeneratorExp elt [⟨tg, iter, ifs, 0⟩] scope pos) 0 (.ref it) .none (gEnv X scope C code))
        ((model X.prog X.w).den (.compLoop (.GeneratorExp elt [⟨tg, iter, ifs, 0⟩] scope pos) 0 (.ref it) .none (gEnv X scope C code))) [] s) → (∀ m' < m, ∀ (s0 s : Shared) (i : Nat) (H : Hp), L2.Inv (GC X B s3 H3 scope C code fp) [] σ0 H s → tn i s.heap → (∀ b ∈ fp, H b = none) → W n i m' H →
      Seg (model X.prog X.w) B (gR (GC X B s3 H3 scope C code fp) σ0 QE) (gY (GC X B s3 H3 scope C code fp) σ0 fp tn Bd W VV) n s0 (.compLoop (.GeneratorExp elt [⟨tg, iter, ifs, 0⟩] scope pos) 0 (.ref it) .none (gEnv X scope C code))
        ((model X.prog X.w).den (.compLoop (.GeneratorExp elt [⟨tg, iter, ifs, 0⟩] scope pos) 0 (.ref it) .none (gEnv X scope C code))) [] s) → Bd n m →
      ∀ (s0 s : Shared) (i : Nat) (H : Hp), L2.Inv (GC X B s3 H3 scope C code fp) [] σ0 H s → tn i s.heap → (∀ b ∈ fp, H b = none) → W n i m H →
      Seg (model X.prog X.w) B (gR (GC X B s3 H3 scope C code fp) σ0 QE) (gY (GC X B s3 H3 scope C code fp) σ0 fp tn Bd W VV) n s0 (.compLoop (.GeneratorExp elt [⟨tg, iter, ifs, 0⟩] scope pos) 0 (.ref it) .none (gEnv X scope C code))
        ((model X.prog X.w).den (.compLoop (.GeneratorExp elt [⟨tg, iter, ifs, 0⟩] scope pos) 0 (.ref it) .none (gEnv X scope C code))) [] s := by
    intro n m ihn ih hmn s0 s i H I st nf w
    show Seg _ B _ _ _ s0 _ ((compTurn (.GeneratorExp elt [⟨tg, iter, ifs, 0⟩] scope pos) 0 (.ref it) .none (gEnv X scope C code)).onRaise (leaving (gEnv X scope C code))) [] s
    rw [compTurn_gen, Sem.onRaise_eq_wrap]
    refine seg_bind_wrap (wpAny_standAt ?_)
    rcases turn n i m H w with ⟨stop, q⟩ | ⟨go, step⟩
    · refine seg_bind_wrap (thnF (T.done (GC X B s3 H3 scope C code fp) rfl rfl rfl hc i [] s _ H (fun _ _ => False) I (stat I nf) st stop) fun r s6 ⟨hr, I6⟩ => ?_)
      subst hr
      exact seg_end (.ok .next) ⟨rfl, H, I6, q⟩
    · refine seg_bind_wrap (thnF (T.item (GC X B s3 H3 scope C code fp) rfl rfl rfl hc i [] s _ H (fun _ _ => False) I (stat I nf) st go) fun r s6 ⟨u, hr, h6⟩ => ?_)
      subst hr
      refine seg_bind_wrap (thnF h6 fun _ s7 ⟨x, H7, I7, r7, y7, st7, n7⟩ => ?_)
      have I7' := I7.pinned (stat I7 n7) (T.obj _ _ st7)
      refine seg_bind_wrap (thnF (pg.run _ s7 _ H7 x u _ I7' r7 (step x H7 y7)) fun _ s8 ⟨σ8, H8, I8, hw8, q8⟩ => ?_)
      refine seg_bind_wrap (thnF (pt.run _ s8 σ8 H8 _ I8 q8) fun b s9 ⟨H9, I9, q9⟩ => ?_)
      have fin : ∀ {s' : Shared} {H' : Hp}, L2.Inv (GC X B s3 H3 scope C code fp) ([] ++ pinsAt fp s7.heap) σ8 H' s' → L2.Inv (GC X B s3 H3 scope C code fp) [] σ0 H' s' ∧ tn (i + 1) s'.heap ∧ (∀ b ∈ fp, H' b = none) := fun {s' H'} I' => by
        have pin' : ∀ b ∈ fp, ∀ o, s7.heap.get? b = some o → s'.heap.get? b = some o ∧ H' b = none := fun b hb o e =>
          let z := I'.pin (b, o) (List.mem_append_right _ (List.mem_append_right _ (mem_pinsAt hb e)))
          ⟨z.1, z.2.1⟩
        have hl : σ0.length = σ8.length := by rw [← hw8, wipe_length]
        refine ⟨(I'.unpinned (pins := [])).weak hl (fun j v e => ?_), T.keep _ _ _ st7 fun b hb o e => (pin' b hb o e).1, fun b hb => ?_⟩
        · rw [← hw8] at e
          exact (wipe_some e).1
        · obtain ⟨o, e, _⟩ := T.obj _ _ st7 b hb
          exact (pin' b hb o e).2
      cases b with
      | false =>
        simp only [Bool.false_eq_true, if_false] at q9 ⊢
        obtain ⟨m', hm, w'⟩ := q9
        obtain ⟨f1, f2, f3⟩ := fin I9
        exact seg_again rfl (ih m' hm s0 s9 (i + 1) H9 f1 f2 f3 w')
      | true =>
        simp only [if_true] at q9 ⊢
        have hy : ∀ v, yieldOut (gEnv X scope C code) v = yieldValue v := fun v => by
          have e : (gEnv X scope C code).scope.isCoroutine = false := hco
          simp only [yieldOut, e, Bool.false_eq_true, if_false]
        simp only [hy]
        rw [Sem.bind_eq_wrap', Sem.bind_eq_wrap', Sem.wrap_wrap, Sem.wrap_wrap]
        refine seg_wrap (thnF (pe.run _ s9 σ8 H9 _ I9 q9) fun z s10 ⟨yv, H10, I10, r10, v10⟩ => ?_)
        obtain ⟨f1, f2, f3⟩ := fin I10
        obtain ⟨n', rfl⟩ : ∃ n', n = n' + 1 := ⟨n - 1, by have := hB1 n m hmn; omega⟩
        refine seg_at (seg_yield rfl rfl rfl ⟨⟨i, m, H10, yv, hmn, f1, f2, f3, r10, v10⟩, fun s2 hp => ?_⟩)
        obtain ⟨i2, m2, H2, hm2, I2, st2, nf2, w2⟩ := hp
        exact seg_again rfl (ihn n' (Nat.lt_succ_self _) m2 hm2 s2 s2 i2 H2 I2 st2 nf2 w2)
  intro n
  induction n using Nat.strongRecOn with
  | _ n ihn =>
    intro m
    induction m using Nat.strongRecOn with
    | _ m ih => exact fun hmn => key n m (fun n' hn' m' hm' => ihn n' hn' m' hm') (fun m' hm' => ih m' hm' (hB2 n m m' hmn hm')) hmn
theorem seg_gen0 (hB1 : ∀ n m, Bd n m → 0 < n) (hB2 : ∀ n m m', Bd n m → m' < m → Bd n m') (hc : X.calm = true) (hco : scope.isCoroutine = false) (T : Turn X.prog X.w X.K tg J fp it tn) (pg : PG (GC X B s3 H3 scope C code fp) tg g) (pt : PTs (GC X B s3 H3 scope C code fp) ifs tt) (pe : PE (GC X B s3 H3 scope C code fp) elt te)
    (hσ : wipe σ0 vs = σ0) (turn : ∀ n i m H, W n i m H → (J.stop i H ∧ QE n H) ∨ (J.go i H ∧ ∀ x H', J.yld i H x H' → g x σ0 H' fun σ2 H2 => wipe σ2 vs = σ0 ∧ tt σ2 H2 fun b H3 => if b = true then te σ2 H3 fun y H4 => VV n i m y H4 else ∃ m', m' < m ∧ W n (i + 1) m' H3))
    (n : Nat) (s : Shared) (hp : Pend (GC X B s3 H3 scope C code fp) σ0 fp tn Bd W n s) :
      Seg (model X.prog X.w) B (gR (GC X B s3 H3 scope C code fp) σ0 QE) (gY (GC X B s3 H3 scope C code fp) σ0 fp tn Bd W VV) n s (.compStart (.GeneratorExp elt [⟨tg, iter, ifs, 0⟩] scope pos) 0 (.ref it) .none (gEnv X scope C code))
        ((model X.prog X.w).den (.compStart (.GeneratorExp elt [⟨tg, iter, ifs, 0⟩] scope pos) 0 (.ref it) .none (gEnv X scope C code))) [] s := by
  obtain ⟨i, m, H, hm, I, st, nf, w⟩ := hp
  have loop := seg_gen (iter := iter) (pos := pos) (it := it) hB1 hB2 hc hco T pg pt pe hσ turn n m hm s s i H I st nf w
  show Seg _ B _ _ _ s _ ((compStart (.GeneratorExp elt [⟨tg, iter, ifs, 0⟩] scope pos) 0 (.ref it) .none (gEnv X scope C code)).onRaise (leaving (gEnv X scope C code))) [] s
  unfold compStart
  rw [Sem.onRaise_eq_wrap]
  show Seg _ B _ _ _ s _ ((ask >>= _).wrap _ _ _ _) [] s
  refine seg_bind_wrap (wpAny_askSetting ?_)
  split
  · exact seg_again rfl loop
  · refine seg_bind_wrap (wpAny_rule ?_)
    show Seg _ B _ _ _ s _ ((standAt iter.pos >>= _).wrap _ _ _ _) [] s
    exact seg_bind_wrap (wpAny_standAt (seg_bind_wrap (T.self _ i s _ _ st (seg_again rfl loop))))
/-- the generator's number is alive: it goes on from any state in which it waits -/
def Live (cx : Cx) (B : Around) (σ0 : L2.St) (fp : List Addr) (tn : Nat → Heap → Prop) (Bd : Nat → Nat → Prop) (W : Nat → Nat → Nat → Hp → Prop) (VV : Nat → Nat → Nat → V → Hp → Prop) (QE : Nat → Hp → Prop) (gn n : Nat) (s : Shared) : Prop :=
  ∃ gs, s.gens[gn]? = some gs ∧ ∀ s2, Pend cx σ0 fp tn Bd W n s2 → gs.Goes (model cx.prog cx.w) B (gR cx σ0 QE) (gY cx σ0 fp tn Bd W VV) n (.send .none) s2
theorem inv_gens {cx : Cx} {pins : List (Addr × Obj)} {σ : L2.St} {H : Hp} {s : Shared} {g' : Array GenState} (I : L2.Inv cx pins σ H s) (hg : AllBare g') : L2.Inv cx pins σ H { s with gens := g' } :=
  I.step (g' := g') (d' := s.drawn) (t' := s.toks) (ch := []) (fun b hb => absurd hb (by simp)) (fun b o _ _ _ e _ => e) (fun b o _ _ _ e _ => ⟨o.slots, e⟩) (fun _ _ _ _ n => n) (fun b o _ e => ⟨o, e⟩) (fun _ _ e => e) (fun _ _ _ e => e) (fun b ps e => ⟨#[], by rw [e]; simp⟩) (fun m hm => hm) I.hok hg
theorem bare_set {s : Shared} {gn : Nat} {x : GenState} (h : AllBare s.gens) (hx : x.bare = true) : AllBare (s.setGen gn x).gens := by
  intro y hy
  simp only [Shared.setGen] at hy
  rcases Array.mem_or_eq_of_mem_setIfInBounds hy with q | q
  · exact h y q
  · rw [q]; exact hx
theorem next_gen {A' : Around} {cx : Cx} {E : Value → Shared → Prop} {a : Addr} {gn n : Nat} {s : Shared} (hB1 : ∀ n m, Bd n m → 0 < n) (hh : A'.handled = none) (hroom : A'.depth < recursionLimit) (hW : ∀ n i m H, W n i m H → H a = some (genO a gn))
    (L : Live cx A'.in1 σ0 fp tn Bd W VV QE gn n s) (P : Pend cx σ0 fp tn Bd W n s) :
    wpAny (model cx.prog cx.w) A' (pyNext (.ref a)) (fun r s1 => (r = none ∧ GEnd cx σ0 QE n s1) ∨ ∃ v n', n = n' + 1 ∧ r = some v ∧ Yok cx σ0 fp tn Bd VV n' v s1 ∧ Live cx A'.in1 σ0 fp tn Bd W VV QE gn n' s1) E s := by
  obtain ⟨gs, hgs, hgo⟩ := L
  have P0 := P
  obtain ⟨i, m, H, hm, I, st, nf, w⟩ := P0
  have hg : s.heap.IsGen a gn := (I.hok a _ (hW n i m H w)).1
  refine GenW.wpAny_gsz (Nat.le_refl s.gens.size) ?_
  refine wpAny_pyNext_genexpQ (P := fun n _ s1 => GEnd cx σ0 QE n s1) (Y := gY cx σ0 fp tn Bd W VV) hh I.nolimit hroom hg hgs (hgo _ ⟨i, m, H, hm, inv_gens I (bare_set I.bare rfl), st, nf, w⟩) (fun v s1 gs' hb hy hsz => ?_) (fun s1 he h' hk _ => ?_)
  · obtain ⟨n', rfl⟩ : ∃ n', n = n' + 1 := ⟨n - 1, by have := hB1 n m hm; omega⟩
    obtain ⟨⟨i2, m2, H2, y, hm2, I2, st2, nf2, r2, v2⟩, kap⟩ := hy
    refine .inr ⟨v, n', rfl, rfl, ⟨i2, m2, H2, y, hm2, inv_gens I2 (bare_set I2.bare hb), st2, nf2, r2, v2⟩, gs', ?_, fun s2 hp => kap s2 hp⟩
    have h0 : gn < s.gens.size := (Array.getElem?_eq_some_iff.mp hgs).1
    rw [GenW.setGen_size] at hsz
    simp only [Shared.setGen]
    rw [Array.getElem?_setIfInBounds_self_of_lt (by omega)]
  · obtain ⟨H2, I2, q2⟩ := he
    exact .inl ⟨rfl, H2, (inv_gens I2 (bare_set I2.bare rfl)).kept hk, q2⟩
end
end DL
set_option Elab.async false
set_option linter.all false
set_option maxRecDepth 100000
set_option maxHeartbeats 2000000
namespace DL
open PySem PySem.Spec PyProof.Rows L2
section
variable {cx : Cx} {A : Around} {σ0 : L2.St} {fp : List Addr} {tn : Nat → Heap → Prop} {Bd : Nat → Nat → Prop} {W : Nat → Nat → Nat → Hp → Prop} {VV : Nat → Nat → Nat → V → Hp → Prop} {QE : Nat → Hp → Prop} {a S : Addr} {gn : Nat} {R : Result → Shared → Prop}
theorem any_loop (hB1 : ∀ n m, Bd n m → 0 < n) (hh : A.handled = none) (hroom : A.depth < recursionLimit) (hW : ∀ n i m H, W n i m H → H a = some (genO a gn)) (hE : ∀ n s1, GEnd cx σ0 QE n s1 → R (.ok (.ret (.bool false))) s1)
    (hV : ∀ n i m y H, Bd (n + 1) m → VV (n + 1) i m y H → ∃ c, y = .bl c ∧ (c = true → ∀ s1, L2.Inv cx [] σ0 H s1 → R (.ok (.ret (.bool true))) s1) ∧ (c = false → ∃ m', Bd n m' ∧ W n (i + 1) m' H)) :
    ∀ (n : Nat) (s : Shared), Live cx A.in1.in1 σ0 fp tn Bd W VV QE gn n s → Pend cx σ0 fp tn Bd W n s → codeAny (model cx.prog cx.w) A (.builtin "any.loop" ⟨[.ref a], []⟩) R s := by
  intro n
  induction n with
  | zero =>
    rintro s _ ⟨i, m, H, hm, _⟩
    exact absurd (hB1 0 m hm) (Nat.lt_irrefl _)
  | succ n ih =>
    intro s L P
    refine codeAny_builtin F.entry_any_loop ?_
    rw [Around.under_plainId F.plain_any_loop _]
    show wpAny _ A.in1 (pyNext (.ref a) >>= _) _ _ s
    refine wpAny_bind (wpAny_mono (next_gen (A' := A.in1) (E := fun _ _ => False) hB1 hh hroom hW L P) (fun r s1 h => ?_) fun _ _ z => z.elim)
    rcases h with ⟨rfl, h⟩ | ⟨v, n', hn, rfl, ⟨i, m, H, y, hm, I, st, nf, rv, vv⟩, L'⟩
    · exact wpAny_bind (wpAny_rule (wpAny_pure (hE _ s1 h)))
    · cases hn
      obtain ⟨c, rfl, h1, h2⟩ := hV _ i m y H hm vv
      have e : v = .bool c := rv
      subst e
      refine wpAny_bind (wpAny_holding (wpAny_truthy_bool ?_))
      refine wpAny_bind (wpAny_letGo ?_)
      cases c with
      | false =>
        simp only [Bool.false_eq_true, if_false]
        obtain ⟨m', hm', w'⟩ := h2 rfl
        exact wpAny_pure ⟨plainId_quiet F.plain_any_loop _, ih s1 L' ⟨i + 1, m', H, hm', I, st, nf, w'⟩⟩
      | true =>
        simp only [if_true]
        exact wpAny_bind (wpAny_rule (wpAny_pure (h1 rfl s1 I)))
/-- the running sum's list -/
theorem acc_obj {pins : List (Addr × Obj)} {H : Hp} {s : Shared} {acc : Int} (I : L2.Inv cx pins σ0 H s) (h : H S = some (.lst [.int acc])) : ∃ t c, s.heap.get? S = some { cls := .type "list", dict := none, data := .seq #[.int acc t] c, slots := #[] } := by
  obtain ⟨_, its, n, hv, ho⟩ := I.hok S _ h
  cases hv with
  | cons r rs =>
    cases rs
    obtain ⟨t, rfl⟩ := r
    exact ⟨t, n, ho⟩
theorem acc_set {pins : List (Addr × Obj)} {H : Hp} {s : Shared} {acc z : Int} {h' : Heap} {tk c : Nat} {t : Tok} (I : L2.Inv cx pins σ0 H s) (h : H S = some (.lst [.int acc])) (k : ∀ b u, b ≠ S → s.heap.get? b = some u → h'.get? b = some u)
    (ho : h'.get? S = some { cls := .type "list", dict := none, data := .seq #[.int z t] c, slots := #[] }) : L2.Inv cx pins σ0 (upd H S (.lst [.int z])) { s with heap := h', toks := tk } :=
  I.write (x := S) (e := S) (by rw [h]; trivial) (.inl rfl) k ⟨_, ho⟩ ⟨by show 1 ≤ sizeLine; decide, [.int z t], c, .cons ⟨t, rfl⟩ .nil, ho⟩
theorem sum_loop (accOf : Nat → Int) (hB1 : ∀ n m, Bd n m → 0 < n) (hh : A.handled = none) (hroom : A.depth < recursionLimit) (hkeep : ∀ i (h h' : Heap), tn i h → (∀ b ∈ fp, ∀ o, h.get? b = some o → h'.get? b = some o) → tn i h') (hW : ∀ n i m H, W n i m H → H a = some (genO a gn) ∧ H S = some (.lst [.int (accOf n)]))
    (hE : ∀ n H s1, L2.Inv cx [] σ0 H s1 → QE n H → ∀ t, R (.ok (.ret (.int (accOf n) t))) s1)
    (hV : ∀ n i m y H, Bd (n + 1) m → VV (n + 1) i m y H → ∃ z, y = .int z ∧ H S = some (.lst [.int (accOf (n + 1))]) ∧ accOf n = accOf (n + 1) + z ∧ ∃ m', Bd n m' ∧ W n (i + 1) m' (upd H S (.lst [.int (accOf n)]))) :
    ∀ (n : Nat) (s : Shared) (st : Int), (st = 0 ∨ st = 2) → Live cx A.in1.in1 σ0 fp tn Bd W VV QE gn n s → Pend cx σ0 fp tn Bd W n s → codeAny (model cx.prog cx.w) A (.builtin "sum.loop" ⟨[.ref a, .ref S, rawInt st, rawInt 0], []⟩) R s := by
  intro n
  induction n with
  | zero =>
    rintro s st _ _ ⟨i, m, H, hm, _⟩
    exact absurd (hB1 0 m hm) (Nat.lt_irrefl _)
  | succ n ih =>
    intro s st hst L P
    obtain ⟨i0, m0, H0, _, I0, st0, nf0, w0⟩ := id P
    obtain ⟨t0, c0, hS0⟩ := acc_obj I0 (hW _ i0 m0 H0 w0).2
    refine codeAny_builtin F.entry_sum_loop ?_
    rw [Around.under_plainId F.plain_sum_loop _]
    show wpAny _ A.in1 (seqItems? (.ref S) >>= _) _ _ s
    refine wpAny_bind (wpAny_seqItems hS0 rfl ?_)
    show wpAny _ A.in1 (tryCatch (pyNext (.ref a)) _ >>= _) _ _ s
    refine wpAny_bind (wpAny_tryCatch (wpAny_mono (next_gen (A' := A.in1) (E := fun _ _ => False) hB1 hh hroom (fun n i m H w => (hW n i m H w).1) L P) (fun r s1 h => ?_) fun _ _ z => z.elim))
    rcases h with ⟨rfl, h⟩ | ⟨v, n', hn, rfl, ⟨i, m, H, y, hm, I, st1, nf, rv, vv⟩, L'⟩
    · obtain ⟨H1, I1, q1⟩ := h
      exact wpAny_pure (hE _ H1 s1 I1 q1 t0)
    · cases hn
      obtain ⟨z, rfl, e1, e2, m', hm', w'⟩ := hV _ i m y H hm vv
      obtain ⟨t, rfl⟩ := rv
      obtain ⟨t1, c1, hS1⟩ := acc_obj I e1
      have nS : ∀ b ∈ fp, S ≠ b := fun b hb e => by
        have := nf b hb
        rw [← e, e1] at this
        cases this
      -- behind the list's change
      have fin : ∀ {h' : Heap} {tk c : Nat} {t2 : Tok}, (∀ b u, b ≠ S → s1.heap.get? b = some u → h'.get? b = some u) → h'.get? S = some { cls := .type "list", dict := none, data := .seq #[.int (accOf (n + 1) + z) t2] c, slots := #[] } →
          Live cx A.in1.in1 σ0 fp tn Bd W VV QE gn n { s1 with heap := h', toks := tk } ∧ Pend cx σ0 fp tn Bd W n { s1 with heap := h', toks := tk } := fun {h' tk c t2} k ho => by
        rw [← e2] at ho
        refine ⟨L', i + 1, m', _, hm', acc_set I e1 k ho, hkeep _ _ _ st1 fun b hb o e => k b o (fun q => nS b hb q.symm) e, fun b hb => ?_, w'⟩
        rw [upd_ne (fun q => nS b hb q.symm)]
        exact nf b hb
      rcases hst with rfl | rfl
      · show wpAny _ A.in1 (if (_ : Bool) = true then (mkInt (accOf (n + 1) + z) >>= _) else _) _ _ _
        split
        · refine wpAny_bind (wpAny_mkInt ?_)
          show wpAny _ A.in1 (updateSeq S (fun _ => #[.int (accOf (n + 1) + z) s1.toks]) >>= _) _ _ _
          refine wpAny_bind ?_
          obtain ⟨f1, f2⟩ := fin (tk := s1.toks + 1) (fun b u hb e => (Heap.get?_update_other _ (Obj.mapSeq fun _ => #[Value.int (accOf (n + 1) + z) s1.toks]) (Ne.symm hb)).trans e) (Heap.get?_update_self (Obj.mapSeq fun _ => #[Value.int (accOf (n + 1) + z) s1.toks]) hS1 rfl)
          exact wpAny_updateSeq hS1 rfl (wpAny_pure ⟨plainId_quiet F.plain_sum_loop _, ih _ 0 (.inl rfl) f1 f2⟩)
        · refine wpAny_bind (wpAny_rule ?_)
          refine wpAny_bind (wpAny_attempt (wpAny_holding (wpAny_add_int ?_)))
          show wpAny _ A.in1 (updateSeq S (fun _ => #[.int (accOf (n + 1) + z) s1.toks]) >>= _) _ _ _
          refine wpAny_bind (wpAny_updateSeq hS1 rfl ?_)
          have hS2 := Heap.get?_update_self (Obj.mapSeq fun _ => #[Value.int (accOf (n + 1) + z) s1.toks]) hS1 rfl
          refine wpAny_bind (wpAny_letGo ?_)
          obtain ⟨f1, f2⟩ := fin (tk := s1.toks + 1) (fun b u hb e => (Heap.get?_update_other _ (Obj.mapSeq fun _ => #[Value.int (accOf (n + 1) + z) s1.toks]) (Ne.symm hb)).trans ((Heap.get?_update_other _ (Obj.mapSeq fun _ => #[Value.int (accOf (n + 1) + z) s1.toks]) (Ne.symm hb)).trans e)) (Heap.get?_update_self (Obj.mapSeq fun _ => #[Value.int (accOf (n + 1) + z) s1.toks]) hS2 rfl)
          exact wpAny_bind (wpAny_updateSeq hS2 rfl (wpAny_pure ⟨plainId_quiet F.plain_sum_loop _, ih _ 2 (.inr rfl) f1 f2⟩))
      · show wpAny _ A.in1 ((holding [Value.int z t] (binaryOp .Add (.int (accOf (n + 1)) t0) (.int z t))).attempt >>= _) _ _ _
        refine wpAny_bind (wpAny_attempt (wpAny_holding (wpAny_add_int ?_)))
        show wpAny _ A.in1 (updateSeq S (fun _ => #[.int (accOf (n + 1) + z) s1.toks]) >>= _) _ _ _
        refine wpAny_bind (wpAny_updateSeq hS1 rfl ?_)
        have hS2 := Heap.get?_update_self (Obj.mapSeq fun _ => #[Value.int (accOf (n + 1) + z) s1.toks]) hS1 rfl
        refine wpAny_bind (wpAny_letGo ?_)
        obtain ⟨f1, f2⟩ := fin (tk := s1.toks + 1) (fun b u hb e => (Heap.get?_update_other _ (Obj.mapSeq fun _ => #[Value.int (accOf (n + 1) + z) s1.toks]) (Ne.symm hb)).trans ((Heap.get?_update_other _ (Obj.mapSeq fun _ => #[Value.int (accOf (n + 1) + z) s1.toks]) (Ne.symm hb)).trans e)) (Heap.get?_update_self (Obj.mapSeq fun _ => #[Value.int (accOf (n + 1) + z) s1.toks]) hS2 rfl)
        exact wpAny_bind (wpAny_updateSeq hS2 rfl (wpAny_pure ⟨plainId_quiet F.plain_sum_loop _, ih _ 2 (.inr rfl) f1 f2⟩))
end
end DL
set_option Elab.async false
set_option linter.all false
set_option maxRecDepth 100000
set_option maxHeartbeats 2000000
namespace DL
open PySem PySem.Spec PyProof.Rows L2
/-- a generator just made -/
def GRdy (X : Cx) (pins : List (Addr × Obj)) (σ : L2.St) (vs : List Nat) (tg elt iter : Expr) (ifs : List Expr) (scope : Scope) (pos : Pos) (J : It) (H2 : Hp) (a : Addr) (gn : Nat) (s5 : Shared) : Prop :=
  ∃ s4 C code fp it tn, Turn X.prog X.w X.K tg J fp it tn ∧ L2.Inv (GC X X.A.in1.in1 s4 H2 scope C code fp) [] (wipe σ vs) (upd H2 a (genO a gn)) s5 ∧ tn 0 s5.heap ∧ (∀ b ∈ fp, upd H2 a (genO a gn) b = none) ∧
    s5.gens[gn]? = some (.fresh (.compStart (.GeneratorExp elt [⟨tg, iter, ifs, 0⟩] scope pos) 0 (.ref it) .none (gEnv X scope C code))) ∧ ∀ H' s', L2.Inv (GC X X.A.in1.in1 s4 H2 scope C code fp) [] (wipe σ vs) H' s' → L2.Inv X pins σ H' s'
theorem genO_ok {P : Program} {w : World} {H : Hp} {h : Heap} {a : Addr} {g : Nat} (hg : h.IsGen a g) : ObjOk P w H h a (genO a g) := by
  refine ⟨hg, ?_, fun h1 h2 q k => ?_⟩
  · obtain ⟨o, _, _, e, _⟩ := hg
    exact ⟨o, e⟩
  · obtain ⟨o, nm, qn, e, r⟩ := q
    exact ⟨o, nm, qn, k o e, r⟩
section
variable {X : Cx} {pins : List (Addr × Obj)} {σ : L2.St} {H : Hp} {s : Shared}
theorem gen_make {T : Tbs} {c P P0 : Addr} {k : Nat} {tg elt iter : Expr} {ifs : List Expr} {scope : Scope} {own : List (Str × Nat)} {pos : Pos} {wi : TI} {Q' : Value → Shared → Prop} (hN : X.N.Nodup) (hr : Room k X.A) (I : L2.Inv X pins σ H s) (bm : X.base.BuiltinsAt X.mg P0) (hcode : X.env.code = .ref c)
    (hmT : HasT T P (X.env.qual ++ "<genexpr>") pos) (hi : PI X tg iter wi) (ok : BlkOk X.N X.env.scope scope own) (hno : ∀ y ∈ scope.names, y.2 ≠ .cell) (hco : scope.isCoroutine = false) (hdot : scope.names.lookup (".0" : Str) = some NameKind.local)
    (hs : ∀ v, genFold iter X.env v = pure v)
    {R : It → Hp → Prop} (h : wi σ H R) (hR : ∀ J H1, R J H1 → TabsX T H1 ∧ (∀ s2, L2.Inv X pins σ H1 s2 → PySem.W.CodeHd s2.heap c P) ∧ ∀ H2, LamX.ExtN H1 H2 → TabsX T H2 → ∀ a gn s5, H2 a = none → GRdy X pins σ (own.map (·.2)) tg elt iter ifs scope pos J H2 a gn s5 → Q' (.ref a) s5) :
    wpAny (model X.prog X.w) X.A (eval (.GeneratorExp elt [⟨tg, iter, ifs, 0⟩] scope pos) X.env) Q' X.xe s := by
  have hfree : ∀ y ∈ scope.names, y.2 = .free → ∃ c, X.env.cells.lookup y.1 = some c := fun y hy e => by
    rcases ok.free y hy e with k | k
    · exact I.ok.has _ (.inl k)
    · exact I.ok.has _ (.inr k)
  refine wpAny_GeneratorExp_make hco (closure_ok hfree) hno hdot ok.kind (by have := hr.dp; omega) ?_ hs
  refine thn (hi.run pins s σ H _ I h) fun xv s1 h1 => thn h1 fun itv s2 h2 => ?_
  obtain ⟨it, fp, tn, J, H2, e, I2, T2, st2, f2, q0⟩ := h2
  obtain ⟨hT, hcd, q⟩ := hR J H2 q0
  subst e
  refine ⟨I2.nolimit, ?_⟩
  obtain ⟨ps, hP, ht, ha⟩ := tabN_at hT hmT
  have hP' : s2.heap.get? P = some { cls := .none, data := .fields ps } := I2.hok P _ hP
  -- behind the code object
  have cont : ∀ (code : Value) (s3 : Shared) (H3 : Hp), L2.Inv X pins σ H3 s3 → LamX.ExtN H2 H3 → TabsX T H3 → tn 0 s3.heap → (∀ b ∈ fp, FpOk X pins H3 b ∧ b < s3.heap.objs.size) →
      wpAny (model X.prog X.w) X.A (builtinsFor X.env.globals X.env.builtins) (fun bi s4 => ∀ h', h'.Ns s4.heap.objs.size (fun y => if y = ".0" then some (.ref it) else none) → Heap.SameBut s4.heap.objs.size (s4.heap.push { cls := .type "frame", data := .dict #[] }) h' →
        Q' (.ref h'.objs.size) { s4 with gens := s4.gens.push (.fresh (.compStart (.GeneratorExp elt [⟨tg, iter, ifs, 0⟩] scope pos) 0 (.ref it) .none (genEnv scope (cloFrom X.env.cells scope.names []) s4.heap.objs.size code bi X.env))), toks := s4.toks + 1 + 1 + 1, heap := h'.push { cls := .type "generator", data := .fields #[.int s4.gens.size 0, .str "<genexpr>" (s4.toks + 1), .str (X.env.qual ++ "<genexpr>") (s4.toks + 1 + 1)] } }) X.xe s3 := by
    intro code s3 H3 I3 eN T3 st3 f3
    obtain ⟨bm, ob, e1, e2, e3, e4, e5, e6, e7, e8⟩ := bm
    refine wpAny_builtinsFor (m := X.mg) (by rw [I3.ok.glob]; exact I3.mod.glob.keeps I3.bk) e1 e2 (I3.bk _ _ e5) e6 e7 e8 ?_
    intro h' hns hsb
    have kp : ∀ b o, s3.heap.get? b = some o → h'.get? b = some o := fun b o e => hsb.extBut b o (Nat.ne_of_lt (Heap.lt_size e)) (Heap.get?_push_of_some _ e)
    have I4 := gen_start (A := X.A.in1.in1) (code := code) (tk := s3.toks + 1 + 1 + 1) (g' := s3.gens) I3 ok hno hN f3 hr.hd I3.ok.frames hns kp I3.bare
    have hsz : s3.heap.objs.size ≤ h'.objs.size := Nat.le_of_lt hns.lt
    have na : H3 h'.objs.size = none := I3.hok.fresh hsz
    have hgen : (h'.push { cls := .type "generator", data := .fields #[.int s3.gens.size 0, .str "<genexpr>" (s3.toks + 1), .str (X.env.qual ++ "<genexpr>") (s3.toks + 1 + 1)] }).IsGen h'.objs.size s3.gens.size := ⟨_, _, _, Heap.get?_push_size _ rfl, rfl, rfl, rfl⟩
    have I5 := I4.laid (a := h'.objs.size) (t' := s3.toks + 1 + 1 + 1) (h' := h'.push { cls := .type "generator", data := .fields #[.int s3.gens.size 0, .str "<genexpr>" (s3.toks + 1), .str (X.env.qual ++ "<genexpr>") (s3.toks + 1 + 1)] }) (fun b u e => Heap.get?_push_of_some _ e) (Nat.le_refl _) (genO_ok hgen)
    have I6 := inv_gens (g' := s3.gens.push (.fresh (.compStart (.GeneratorExp elt [⟨tg, iter, ifs, 0⟩] scope pos) 0 (.ref it) .none (gEnv X scope s3.heap.objs.size code)))) I5 (I3.bare.push rfl)
    refine q H3 eN T3 h'.objs.size s3.gens.size _ na ⟨s3, s3.heap.objs.size, code, fp, it, tn, T2, I6, T2.keep _ _ _ st3 fun b _ o e => Heap.get?_push_of_some _ (kp b o e), fun b hb => ?_, Array.getElem?_push_size .., fun H' s' I' => ?_⟩
    · rw [upd_ne (fun z => by have := (f3 b hb).2; rw [z] at this; exact absurd (Nat.lt_of_lt_of_le this hsz) (Nat.lt_irrefl _))]
      exact (f3 b hb).1.1
    · exact I3.call' (ch := fp) I'.os I'.base I'.hok I'.bare fun b hb => ⟨(f3 b hb).1.2.2.2.1, (f3 b hb).1.2.1, (f3 b hb).1.2.2.2.2.1, (f3 b hb).1.2.2.2.2.2⟩
  have szf : ∀ b ∈ fp, b < s2.heap.objs.size := fun b hb => by
    obtain ⟨o, e, _⟩ := T2.obj _ _ st2 b hb
    exact Heap.lt_size e
  cases hc : codeAmong pos ps.toList with
  | some cv =>
    refine wpAny_genexprCode_hit hcode ((hcd s2 I2).code hP' ht) hc ?_
    exact cont cv s2 H2 I2 (LamX.ExtN.refl _) hT st2 fun b hb => ⟨f2 b hb, szf b hb⟩
  | none =>
    refine wpAny_genexprCodeX hcode ((hcd s2 I2).code hP' ht) ((hcd s2 I2).tab hP') hc fun c' h' tk hx hge hlt hco' hrec htb _ => ?_
    obtain ⟨c2, oc, vs2, t, e2, hoc, hd, hv⟩ := hrec
    cases e2
    have nC : H2 c' = none := I2.hok.fresh hge
    have hsz : s2.heap.objs.size ≤ h'.objs.size := Nat.le_trans hge (Nat.le_of_lt hlt)
    have I3 := LamX.inv_table (t' := tk) (more := #[rawInt pos.line, rawInt pos.col, .ref c']) (h' := h') I2 hP (fun b o hb e => hx b o hb e) htb.2 hge ⟨oc, vs2, t, hoc, hd, hv⟩
    obtain ⟨hE, hE2⟩ := tabN_grow hT hmT hP nC
    refine cont (.ref c') _ _ I3 hE hE2 (T2.keep _ _ _ st2 fun b hb o e => hx b o (fun z => ?_) e) fun b hb => ⟨⟨?_, (f2 b hb).2⟩, Nat.lt_of_lt_of_le (szf b hb) hsz⟩
    · have := (f2 b hb).1
      rw [z, hP] at this
      cases this
    · have hb0 := (f2 b hb).1
      rw [upd_ne (fun z => ?_), upd_ne (fun z => ?_)]
      · exact hb0
      · rw [z, hP] at hb0; cases hb0
      · have := szf b hb
        rw [z] at this
        exact absurd (Nat.lt_of_lt_of_le this hge) (Nat.lt_irrefl _)
end
section
variable {X : Cx} {T : Tbs} {c P : Addr} {k : Nat} {tg elt iter : Expr} {ifs : List Expr} {scope : Scope} {own : List (Str × Nat)} {gpos p pos : Pos} {wi : TI} {g : TG} {tt : TT} {te : TE}
def tGAny (T : Tbs) (stop : Bool) (wi : TI) (g : TG) (tt : TT) (te : TE) (vs : List Nat) : TE := fun σ H Q => wi σ H fun J H1 => TabsX T H1 ∧ ∀ H2, LamX.ExtN H1 H2 → TabsX T H2 → ∀ a gn, H2 a = none →
  ∃ W : Nat → Nat → Hp → Prop, (∃ m, W 0 m (upd H2 a (genO a gn))) ∧ ∀ i m H, W i m H → H a = some (genO a gn) ∧ ((J.stop i H ∧ Q (.bl (!stop)) H) ∨ (J.go i H ∧ ∀ x H', J.yld i H x H' → g x (wipe σ vs) H' fun σ2 H3 => wipe σ2 vs = wipe σ vs ∧ tt σ2 H3 fun b H4 =>
    if b = true then te σ2 H4 fun y H5 => ∃ d, y = .bl d ∧ (d = stop → Q (.bl stop) H5) ∧ (d = (!stop) → ∃ m', m' < m ∧ W (i + 1) m' H5) else ∃ m', m' < m ∧ W (i + 1) m' H4))
def tGSum (T : Tbs) (CD : Hp → Prop) (wi : TI) (g : TG) (tt : TT) (te : TE) (vs : List Nat) : TE := fun σ H Q => wi σ H fun J H1 => TabsX T H1 ∧ CD H1 ∧ ∀ H2, LamX.ExtN H1 H2 → TabsX T H2 → ∀ a gn, H2 a = none → ∀ S, upd H2 a (genO a gn) S = none →
  ∃ (zs : List Int) (W : Nat → Nat → Nat → Hp → Prop), (∃ m, W (zs.length + 1) 0 m (upd (upd H2 a (genO a gn)) S (.lst [.int 0]))) ∧ ∀ n i m H, W n i m H → H a = some (genO a gn) ∧ H S = some (.lst [.int (zs.take (zs.length + 1 - n)).sum]) ∧ ((J.stop i H ∧ n = 1 ∧ Q (.int zs.sum) H) ∨ (J.go i H ∧ ∀ x H', J.yld i H x H' → g x (wipe σ vs) H' fun σ2 H3 => wipe σ2 vs = wipe σ vs ∧ tt σ2 H3 fun b H4 =>
    if b = true then te σ2 H4 fun y H5 => ∃ z, y = .int z ∧ zs[zs.length + 1 - n]? = some z ∧ H5 S = some (.lst [.int (zs.take (zs.length + 1 - n)).sum]) ∧ ∃ m', W (n - 1) (i + 1) m' (upd H5 S (.lst [.int ((zs.take (zs.length + 1 - n)).sum + z)])) else ∃ m', m' < m ∧ W n (i + 1) m' H4))
theorem wipe_wipe (σ : L2.St) (vs : List Nat) : wipe (wipe σ vs) vs = wipe σ vs := wipe_eq (is := []) ⟨rfl, fun _ _ => rfl⟩ (fun _ h => absurd h (by simp))
theorem pe_gany (hc : X.calm = true) (hN : X.N.Nodup) (hr : Room k X.A) (hg : Gl X "any") (hm : X.mg "any" = none) (TB : LamX.TabB X.base X.mg c P) (hcode : X.env.code = .ref c) (hmT : HasT T P (X.env.qual ++ "<genexpr>") gpos)
    (hi : PI X tg iter wi) (ok : BlkOk X.N X.env.scope scope own) (hno : ∀ y ∈ scope.names, y.2 ≠ .cell) (hco : scope.isCoroutine = false) (hdot : scope.names.lookup (".0" : Str) = some NameKind.local)
    (pg : ∀ s H C code fp, PG (GC X X.A.in1.in1 s H scope C code fp) tg g) (pt : ∀ s H C code fp, PTs (GC X X.A.in1.in1 s H scope C code fp) ifs tt) (pe : ∀ s H C code fp, PE (GC X X.A.in1.in1 s H scope C code fp) elt te)
    (hs : ∀ v, genFold iter X.env v = pure v) (he : starEach [.GeneratorExp elt [⟨tg, iter, ifs, 0⟩] scope gpos] X.env = (false, eval (.GeneratorExp elt [⟨tg, iter, ifs, 0⟩] scope gpos) X.env) :: starEach [] X.env := by rfl) (hb : bootBuiltins "any" = some (.builtin "any") := by rfl) :
    PE X (.Call (.Name "any" p) [.GeneratorExp elt [⟨tg, iter, ifs, 0⟩] scope gpos] [] pos) (tGAny T true wi g tt te (own.map (·.2))) := by
  refine ⟨fun pins s σ H Q I h => ?_⟩
  refine wpAny_Call_Name_kw (ld_blt I hg hm hb ?_)
  refine PyProof.Rows.callWith_builtin1 ?_ he (by rfl)
  rw [he]
  show wpAny _ _ (spliced ((false, eval (.GeneratorExp elt [⟨tg, iter, ifs, 0⟩] scope gpos) X.env) :: backTo pos (starEach [] X.env))) _ _ s
  have hd : X.A.in1.handled = none := hr.hd
  have hroom : X.A.depth < recursionLimit := by have := hr.dp; omega
  refine Calls.spliced_cons (gen_make (T := T) (wi := wi) hN hr I TB.bm hcode hmT hi ok hno hco hdot hs h fun J H1 q => ⟨q.1, fun s2 I2 => TB.code.keeps I2.bk, fun H2 eN T2 a gn s5 na rdy => Calls.spliced_nil ?_⟩)
  obtain ⟨s4, C, code, fp, it, tn, Tn, I5, st5, n5, hgs, back⟩ := rdy
  have hgen : s5.heap.IsGen a gn := (I5.hok a _ upd_same).1
  refine call_function_tree F.kind_any F.plain_any F.entry_any (F.args_any1 _) ?_
  unfold Builtin.«any»
  obtain ⟨W, ⟨m0, w0⟩, step⟩ := q.2 H2 eN T2 a gn na
  refine wpAny_bind (m := oneArg "any" _) (wpAny_pure ?_)
  refine wpAny_bind (wpAny_pyIter_gen hgen ?_)
  refine wpAny_pure ⟨plainId_quiet F.plain_any_loop _, ?_⟩
  have hP : Pend (GC X X.A.in1.in1 s4 H2 scope C code fp) (wipe σ (own.map (·.2))) fp tn (fun n m => m < n) (fun _ i m H => W i m H) (m0 + 1) s5 := ⟨0, m0, _, Nat.lt_succ_self _, I5, st5, n5, w0⟩
  refine any_loop (cx := GC X X.A.in1.in1 s4 H2 scope C code fp) (A := X.A) (σ0 := wipe σ (own.map (·.2))) (fp := fp) (tn := tn) (Bd := fun n m => m < n) (W := fun _ i m H => W i m H)
    (VV := fun _ i m y H5 => ∃ d, y = .bl d ∧ (d = true → Q (.bl true) H5) ∧ (d = (!true) → ∃ m', m' < m ∧ W (i + 1) m' H5)) (QE := fun _ H => Q (.bl (!true)) H) (a := a) (gn := gn) (fun n m h => by omega) hd hroom (fun n i m H w => (step i m H w).1) (fun n s1 ⟨H6, I6, q6⟩ => ⟨.bl _, H6, back H6 s1 I6, rfl, q6⟩)
    (fun n i m y H hmn ⟨d, e, h1, h2⟩ => ⟨d, e, fun hd s1 I6 => ⟨.bl _, H, back H s1 I6, rfl, h1 hd⟩, fun hd => by
      obtain ⟨m', hm', w'⟩ := h2 hd
      exact ⟨m', by omega, w'⟩⟩) (m0 + 1) s5 ⟨_, hgs, fun s6 hp => ⟨rfl, seg_gen0 (fun n m h => by omega) (fun n m m' h h' => by omega) hc hco Tn (pg s4 H2 C code fp) (pt s4 H2 C code fp) (pe s4 H2 C code fp) (wipe_wipe σ _) (fun n i m H w => (step i m H w).2) (m0 + 1) s6 hp⟩⟩ hP
theorem pe_gsum {P0 : Addr} (CD : Hp → Prop) (hCD : ∀ pins σ H s, L2.Inv X pins σ H s → CD H → PySem.W.CodeHd s.heap c P) (hc : X.calm = true) (hN : X.N.Nodup) (hr : Room k X.A) (hg : Gl X "sum") (hm : X.mg "sum" = none) (bm : X.base.BuiltinsAt X.mg P0) (hcode : X.env.code = .ref c) (hmT : HasT T P (X.env.qual ++ "<genexpr>") gpos)
    (hi : PI X tg iter wi) (ok : BlkOk X.N X.env.scope scope own) (hno : ∀ y ∈ scope.names, y.2 ≠ .cell) (hco : scope.isCoroutine = false) (hdot : scope.names.lookup (".0" : Str) = some NameKind.local)
    (pg : ∀ s H C code fp, PG (GC X X.A.in1.in1 s H scope C code fp) tg g) (pt : ∀ s H C code fp, PTs (GC X X.A.in1.in1 s H scope C code fp) ifs tt) (pe : ∀ s H C code fp, PE (GC X X.A.in1.in1 s H scope C code fp) elt te)
    (hs : ∀ v, genFold iter X.env v = pure v) (he : starEach [.GeneratorExp elt [⟨tg, iter, ifs, 0⟩] scope gpos] X.env = (false, eval (.GeneratorExp elt [⟨tg, iter, ifs, 0⟩] scope gpos) X.env) :: starEach [] X.env := by rfl) (hb : bootBuiltins "sum" = some (.builtin "sum") := by rfl) :
    PE X (.Call (.Name "sum" p) [.GeneratorExp elt [⟨tg, iter, ifs, 0⟩] scope gpos] [] pos) (tGSum T CD wi g tt te (own.map (·.2))) := by
  refine ⟨fun pins s σ H Q I h => ?_⟩
  refine wpAny_Call_Name_kw (ld_blt I hg hm hb ?_)
  refine PyProof.Rows.callWith_builtin1 ?_ he (by rfl)
  rw [he]
  show wpAny _ _ (spliced ((false, eval (.GeneratorExp elt [⟨tg, iter, ifs, 0⟩] scope gpos) X.env) :: backTo pos (starEach [] X.env))) _ _ s
  have hd : X.A.in1.handled = none := hr.hd
  have hroom : X.A.depth < recursionLimit := by have := hr.dp; omega
  refine Calls.spliced_cons (gen_make (T := T) (wi := wi) hN hr I bm hcode hmT hi ok hno hco hdot hs h fun J H1 q => ⟨q.1, fun s2 I2 => hCD _ _ _ _ I2 q.2.1, fun H2 eN T2 a gn s5 na rdy => Calls.spliced_nil ?_⟩)
  obtain ⟨s4, C, code, fp, it, tn, Tn, I5, st5, n5, hgs, back⟩ := rdy
  have hgen : s5.heap.IsGen a gn := (I5.hok a _ upd_same).1
  refine call_function_tree F.kind_sum F.plain_sum F.entry_sum (F.args_sum1 _) ?_
  unfold Builtin.«sum»
  simp only [List.length_cons, List.length_nil]
  rw [if_neg (by decide)]
  refine wpAny_bind (wpAny_of_eq (show Builtin.Builtins.bindParams "sum" ["start"] 0 { } = pure [none] from rfl) ?_)
  refine wpAny_bind (wpAny_pyIter_gen hgen ?_)
  refine wpAny_bind (wpAny_mkInt ?_)
  refine wpAny_bind (wpAny_pure ?_)
  simp only [List.forIn_cons, List.forIn_nil]
  refine wpAny_bind (wpAny_bind (wpAny_bind (wpAny_isInstance (T := "int") (b := false) (typeIs_int _ _ _) PySem.sub_int_str ?_)))
  simp only [Bool.false_eq_true, if_false]
  refine wpAny_pure (wpAny_bind (wpAny_bind (wpAny_isInstance (T := "int") (b := false) (typeIs_int _ _ _) PySem.sub_int_bytes ?_)))
  simp only [Bool.false_eq_true, if_false]
  refine wpAny_pure (wpAny_bind (wpAny_bind (wpAny_isInstance (T := "int") (b := false) (typeIs_int _ _ _) PySem.sub_int_bytearray ?_)))
  simp only [Bool.false_eq_true, if_false]
  refine wpAny_pure (wpAny_pure ?_)
  refine wpAny_bind (wpAny_newObj_type ?_)
  generalize hS : s5.heap.objs.size = S
  have nS : upd H2 a (genO a gn) S = none := I5.hok.fresh (Nat.le_of_eq hS)
  obtain ⟨zs, W, ⟨m0, w0⟩, step⟩ := q.2.2 H2 eN T2 a gn na S nS
  refine wpAny_pure ⟨plainId_quiet F.plain_sum_loop _, ?_⟩
  have I6 := I5.laid (a := S) (o := .lst [.int 0]) (t' := s5.toks + 1) (h' := s5.heap.push { cls := .type "list", data := .seq ([Value.int 0 s5.toks] : List Value).toArray }) (fun b u e => Heap.get?_push_of_some _ e) (Nat.le_of_eq hS) ⟨by show 1 ≤ sizeLine; decide, [.int 0 s5.toks], 0, .cons ⟨_, rfl⟩ .nil, by rw [← hS]; exact Heap.get?_push_size _ rfl⟩
  have tk0 : (zs.take 0).sum = 0 := rfl
  have hP : Pend (GC X X.A.in1.in1 s4 H2 scope C code fp) (wipe σ (own.map (·.2))) fp tn (fun n _ => 0 < n ∧ n ≤ zs.length + 1) W (zs.length + 1) { s5 with heap := s5.heap.push { cls := .type "list", data := .seq ([Value.int 0 s5.toks] : List Value).toArray }, toks := s5.toks + 1 } :=
    ⟨0, m0, _, ⟨Nat.succ_pos _, Nat.le_refl _⟩, I6, Tn.keep _ _ _ st5 fun b _ o e => Heap.get?_push_of_some _ e, fun b hb => by
      rw [upd_ne (fun z => ?_)]
      · exact n5 b hb
      · obtain ⟨o, e, _⟩ := Tn.obj _ _ st5 b hb
        have := Heap.lt_size e
        rw [z, ← hS] at this
        exact absurd this (Nat.lt_irrefl _), w0⟩
  refine sum_loop (cx := GC X X.A.in1.in1 s4 H2 scope C code fp) (A := X.A) (σ0 := wipe σ (own.map (·.2))) (fp := fp) (tn := tn) (S := S) (Bd := fun n _ => 0 < n ∧ n ≤ zs.length + 1) (W := W)
    (VV := fun n i m y H5 => ∃ z, y = .int z ∧ zs[zs.length + 1 - n]? = some z ∧ H5 S = some (.lst [.int (zs.take (zs.length + 1 - n)).sum]) ∧ ∃ m', W (n - 1) (i + 1) m' (upd H5 S (.lst [.int ((zs.take (zs.length + 1 - n)).sum + z)]))) (QE := fun n H => n = 1 ∧ Q (.int zs.sum) H) (a := a) (gn := gn)
    (fun n => (zs.take (zs.length + 1 - n)).sum) (fun n m h => h.1) hd hroom Tn.keep ?g1 ?g2 ?g3 (zs.length + 1) _ 0 (.inl rfl) ⟨_, hgs, fun s6 hp => ⟨rfl, seg_gen0 (fun n m h => h.1) (fun n m m' h h' => h) hc hco Tn (pg s4 H2 C code fp) (pt s4 H2 C code fp) (pe s4 H2 C code fp) (wipe_wipe σ _) ?g4 (zs.length + 1) s6 hp⟩⟩ hP
  case g1 =>
    intro n i m H w
    obtain ⟨h2, h3, _⟩ := step n i m H w
    exact ⟨h2, h3⟩
  case g2 =>
    rintro n H s1 I7 ⟨rfl, q7⟩ t
    refine ⟨.int zs.sum, H, back H s1 I7, ⟨t, ?_⟩, q7⟩
    rw [Nat.add_sub_cancel, List.take_length]
  case g3 =>
    rintro n i m y H ⟨hn1, hn2⟩ ⟨z, ey, ez, eS, m', w'⟩
    have hlt : zs.length + 1 - (n + 1) < zs.length := (List.getElem?_eq_some_iff.mp ez).1
    have e2 : zs.length + 1 - n = (zs.length + 1 - (n + 1)) + 1 := by omega
    have e3 : (zs.take (zs.length + 1 - n)).sum = (zs.take (zs.length + 1 - (n + 1))).sum + z := by
      rw [e2, List.take_succ, ez]
      simp
    refine ⟨z, ey, eS, e3, m', ⟨by omega, by omega⟩, ?_⟩
    rw [e3]
    exact w'
  case g4 => exact fun n i m H w => (step n i m H w).2.2
end
end DL
set_option Elab.async false
set_option linter.all false
set_option maxRecDepth 100000
set_option maxHeartbeats 2000000
namespace DL
open PySem PySem.Spec PyProof.Rows L2
def anyF (stop : Bool) (put : D → Env → Option Env) (ft : Env → DS → R Bool) (fe : Env → DS → R D) (η0 : Env) : List D → DS → R D
  | [], s => .ok (.bl (!stop)) s
  | d :: ds, s => match put d η0 with
    | none => .bad
    | some η1 => (ft η1 s).nx.bind fun b s1 => if b = true then (fe η1 s1).nx.bind fun y s2 => (R.ofO (asB y) s2).bind fun t s3 => if t = stop then .ok (.bl stop) s3 else anyF stop put ft fe η0 ds s3 else anyF stop put ft fe η0 ds s1
def gAnyD (stop : Bool) (fi : Env → DS → R (List D)) (put : D → Env → Option Env) (ft : Env → DS → R Bool) (fe : Env → DS → R D) (vs : List Nat) : Env → DS → R D := fun η s => (fi η s).bind fun ds s1 => anyF stop put ft fe (wipeE η vs) ds s1
def gSumD (fi : Env → DS → R (List D)) (put : D → Env → Option Env) (ft : Env → DS → R Bool) (fe : Env → DS → R D) (vs : List Nat) : Env → DS → R D := fun η s => (fi η s).bind fun ds s1 => (lcF put ft fe (wipeE η vs) ds s1).bind fun ys s2 => (R.ofO (intsOf ys) s2).bind fun zs s3 => .ok (.int zs.sum) s3
section
variable {M : Mp} {X : Cx} {W : WX}
theorem gblk_e {scope : Scope} {elt : Expr} {fe : Env → DS → R D} (h : ∀ s H C code fp, DE M (GC X X.A.in1.in1 s H scope C code fp) W0 elt fe) : ∃ te : TE, (∀ s H C code fp, PE (GC X X.A.in1.in1 s H scope C code fp) elt te) ∧ EEx M X W0 te fe := by
  refine ⟨fun σ H Q => ∀ s H0 C cl fp, Classical.choose (h s H0 C cl fp).ex σ H Q, fun s H0 C cl fp => ⟨fun pins s1 σ H Q I hw => (Classical.choose_spec (h s H0 C cl fp).ex).1.run pins s1 σ H Q I (hw s H0 C cl fp)⟩, ?_⟩
  intro A σ H G hs own η s Q I r s0 H0 C cl fp
  exact (Classical.choose_spec (h s0 H0 C cl fp).ex).2 A σ H G hs own η s Q I r
theorem gblk_t {scope : Scope} {ifs : List Expr} {ft : Env → DS → R Bool} (h : ∀ s H C code fp, DTs M (GC X X.A.in1.in1 s H scope C code fp) W0 ifs ft) : ∃ tt : TT, (∀ s H C code fp, PTs (GC X X.A.in1.in1 s H scope C code fp) ifs tt) ∧ TEx M X W0 tt ft := by
  refine ⟨fun σ H Q => ∀ s H0 C cl fp, Classical.choose (h s H0 C cl fp).ex σ H Q, fun s H0 C cl fp => ⟨fun pins s1 σ H Q I hw => (Classical.choose_spec (h s H0 C cl fp).ex).1.run pins s1 σ H Q I (hw s H0 C cl fp)⟩, ?_⟩
  intro A σ H G hs own η s Q I r s0 H0 C cl fp
  exact (Classical.choose_spec (h s0 H0 C cl fp).ex).2 A σ H G hs own η s Q I r
theorem gblk_g {scope : Scope} {tg : Expr} {put : D → Env → Option Env} {is : List Nat} (h : ∀ s H C code fp, DG M (GC X X.A.in1.in1 s H scope C code fp) tg put is) : ∃ g : TG, (∀ s H C code fp, PG (GC X X.A.in1.in1 s H scope C code fp) tg g) ∧ GEx M X g put is := by
  refine ⟨fun v σ H Q => ∀ s H0 C cl fp, Classical.choose (h s H0 C cl fp).ex v σ H Q, fun s H0 C cl fp => ⟨fun pins s1 σ H v u Q I r hw => (Classical.choose_spec (h s H0 C cl fp).ex).1.run pins s1 σ H v u Q I r (hw s H0 C cl fp)⟩, ?_⟩
  intro A σ H G hs own η η' s d v Q I hr e k s0 H0 C cl fp
  exact (Classical.choose_spec (h s0 H0 C cl fp).ex).2 A σ H G hs own η η' s d v Q I hr e k
theorem gany_sem {wi : TI} {g : TG} {tt : TT} {te : TE} {vs is : List Nat} {fi : Env → DS → R (List D)} {put : D → Env → Option Env} {ft : Env → DS → R Bool} {fe : Env → DS → R D} (stop : Bool)
    (ki : ∀ (A : Anc) (σ : L2.St) (H G : Hp) (hs : List Addr) (own : Nat → Addr) (η : Env) (s : DS) (Q : It → Hp → Prop), Sm X.K M A σ H G hs own η s → RPost X.K M σ W G hs H (fi η s) (fun ds G' hs' _ H' => ∀ J, ItS X.K M G' hs' H' J ds → Q J H') → wi σ H Q)
    (kg : GEx M X g put is) (kt : TEx M X W0 tt ft) (ke : EEx M X W0 te fe) (hv : (is.all fun j => vs.contains j) = true) : EEx M X W (tGAny M.tabs stop wi g tt te vs) (gAnyD stop fi put ft fe vs) := by
  intro A σ H0 G0 hs0 own η s0 Q I0 hp
  refine ki A σ H0 G0 hs0 own η s0 _ I0 (hp.bind.mono fun ds G1 hs1 s1 H1 S1 J1 h1 J hJ => ⟨J1.tab, fun H2 eN T2 a gn na => ?_⟩)
  have I1 := I0.step S1 J1
  obtain ⟨Sx, Jx⟩ := extN_step J1 eN T2
  obtain ⟨fa1, fa2, fa3⟩ := Jx.free na
  have ext : ∀ b u, H2 b = some u → upd H2 a (genO a gn) b = some u := fun b u e => by rw [upd_ne (ne_of_none e na)]; exact e
  have no : ∀ ps, genO a gn ≠ HO.tbl ps := fun ps z => by cases z
  have his : ∀ j ∈ is, j ∈ vs := fun j hj => List.contains_iff_mem.mp (List.all_eq_true.mp hv j hj)
  refine ⟨fun i m H => ∃ G hs s, Stp M G1 hs1 H1 G hs H ∧ Sim X.K M G hs s H ∧ H a = some (genO a gn) ∧ G a = none ∧ a ∉ hs ∧ i ≤ ds.length ∧ m = ds.length - i ∧
    RPost X.K M σ W G hs H (anyF stop put ft fe (wipeE η vs) (ds.drop i) s) (fun d G' hs' s' H' => ∀ v, Rep X.K M G' hs' d v → Q v H'),
    ⟨ds.length, G1, hs1, s1, Sx.trans (Stp.extH ext), Jx.extH ext, upd_same, fa1, fa2, Nat.zero_le _, rfl, RPost.step (Sx.trans (Stp.extH ext)) h1⟩, ?_⟩
  rintro i m H ⟨G, hs, s, S, J2, ea, gA, nA, hi, rfl, hr⟩
  refine ⟨ea, ?_⟩
  obtain ⟨stp, go⟩ := hJ G hs s H S J2 i
  cases q : ds[i]? with
  | none =>
    have hn : ds.drop i = [] := List.drop_eq_nil_of_le (List.getElem?_eq_none_iff.mp q)
    rw [hn] at hr
    exact .inl ⟨stp q, hr G hs H (Stp.refl _ _ _ _) J2 _ (rep_bl.mpr rfl)⟩
  | some d =>
    have hlt : i < ds.length := (List.getElem?_eq_some_iff.mp q).1
    obtain ⟨go1, go2⟩ := go d q
    have hd : ds.drop i = d :: ds.drop (i + 1) := by
      rw [List.drop_eq_getElem_cons hlt]
      congr 1
      rw [List.getElem?_eq_getElem hlt] at q
      exact Option.some.inj q
    rw [hd, anyF] at hr
    refine .inr ⟨go1, fun x H2' y => ?_⟩
    obtain ⟨G2, S2, J3, hx⟩ := go2 x H2' y
    have a2 := S2.away ea nA gA no genO_nofix
    have e2 := S2.kp _ _ ea nA no
    have SS2 := S.trans S2
    split at hr
    · exact hr.elim
    rename_i η1 e1
    have I2 := (I1.step SS2 J3).wipe vs
    refine kg A _ H2' G2 hs own _ η1 s d x _ I2 hx e1 fun σ2 I3 chg => ⟨wipe_eq chg his, ?_⟩
    refine kt A σ2 H2' G2 hs own η1 s _ I3 ?_
    cases qt : ft η1 s with
    | ex c p s' => rw [qt] at hr; exact hr.elim
    | bad => rw [qt] at hr; exact hr.elim
    | ok b s3 =>
      rw [qt] at hr
      intro G3 hs3 H3 S3 J4
      have a3 := S3.away e2 a2.2 a2.1 no genO_nofix
      have e3 := S3.kp _ _ e2 a2.2 no
      have SS3 := SS2.trans S3
      have hr2 : RPost X.K M σ W G hs H (if b = true then (fe η1 s3).nx.bind fun y s2 => (R.ofO (asB y) s2).bind fun t s3 => if t = stop then .ok (.bl stop) s3 else anyF stop put ft fe (wipeE η vs) (ds.drop (i + 1)) s3 else anyF stop put ft fe (wipeE η vs) (ds.drop (i + 1)) s3) _ := hr
      cases b with
      | false =>
        rw [if_neg Bool.false_ne_true] at hr2 ⊢
        exact ⟨ds.length - (i + 1), by omega, G3, hs3, s3, SS3, J4, e3, a3.1, a3.2, hlt, rfl, RPost.step (S2.trans S3) hr2⟩
      | true =>
        rw [if_pos rfl] at hr2 ⊢
        have I4 := I3.step S3 J4
        refine ke A σ2 H3 G3 hs3 own η1 s3 _ I4 ?_
        cases qe : fe η1 s3 with
        | ex c p s' => rw [qe] at hr2; exact hr2.elim
        | bad => rw [qe] at hr2; exact hr2.elim
        | ok z s4 =>
          rw [qe] at hr2
          intro G4 hs4 H4 S4 J5 v hv
          have a4 := S4.away e3 a3.2 a3.1 no genO_nofix
          have e4 := S4.kp _ _ e3 a3.2 no
          have SS4 := SS3.trans S4
          have hr3 : RPost X.K M σ W G hs H ((R.ofO (asB z) s4).bind fun t s3 => if t = stop then .ok (.bl stop) s3 else anyF stop put ft fe (wipeE η vs) (ds.drop (i + 1)) s3) _ := hr2
          obtain ⟨t, et, k⟩ := hr3.bind.ofO
          have k2 := k G4 hs4 H4 ((S2.trans S3).trans S4) J5
          rw [asB_some et] at hv
          refine ⟨t, rep_bl.mp hv, fun ht => ?_, fun ht => ?_⟩
          · rw [if_pos ht] at k2
            exact k2 G4 hs4 H4 (Stp.refl _ _ _ _) J5 _ (rep_bl.mpr rfl)
          · rw [if_neg (by rw [ht]; cases stop <;> decide)] at k2
            exact ⟨ds.length - (i + 1), by omega, G4, hs4, s4, SS4, J5, e4, a4.1, a4.2, hlt, rfl, k2⟩
theorem lcF_noex {put : D → Env → Option Env} {ft : Env → DS → R Bool} {fe : Env → DS → R D} {η : Env} : ∀ {ds : List D} {s : DS} {c : Nat} {p : List D} {s' : DS}, lcF put ft fe η ds s ≠ .ex c p s'
  | [], s, c, p, s', h => by cases h
  | d :: ds, s, c, p, s', h => by
    rw [lcF] at h
    split at h
    · cases h
    · rename_i η1 _
      cases qt : ft η1 s with
      | ex _ _ _ => rw [qt] at h; cases h
      | bad => rw [qt] at h; cases h
      | ok b s1 =>
        rw [qt] at h
        have h2 : (if b = true then (fe η1 s1).nx.bind fun y s2 => (lcF put ft fe η ds s2).bind fun ys s3 => .ok (y :: ys) s3 else lcF put ft fe η ds s1) = R.ex c p s' := h
        cases b with
        | false => rw [if_neg Bool.false_ne_true] at h2; exact lcF_noex h2
        | true =>
          rw [if_pos rfl] at h2
          cases qe : fe η1 s1 with
          | ex _ _ _ => rw [qe] at h2; cases h2
          | bad => rw [qe] at h2; cases h2
          | ok y s2 =>
            rw [qe] at h2
            have h3 : ((lcF put ft fe η ds s2).bind fun ys s3 => R.ok (y :: ys) s3) = R.ex c p s' := h2
            cases ql : lcF put ft fe η ds s2 with
            | ok _ _ => rw [ql] at h3; cases h3
            | bad => rw [ql] at h3; cases h3
            | ex _ _ _ => exact lcF_noex ql
theorem gsum_sem {CD : Hp → Prop} (hCD : ∀ G hs s H, Sim X.K M G hs s H → CD H) {wi : TI} {g : TG} {tt : TT} {te : TE} {vs is : List Nat} {fi : Env → DS → R (List D)} {put : D → Env → Option Env} {ft : Env → DS → R Bool} {fe : Env → DS → R D}
    (ki : ∀ (A : Anc) (σ : L2.St) (H G : Hp) (hs : List Addr) (own : Nat → Addr) (η : Env) (s : DS) (Q : It → Hp → Prop), Sm X.K M A σ H G hs own η s → RPost X.K M σ W G hs H (fi η s) (fun ds G' hs' _ H' => ∀ J, ItS X.K M G' hs' H' J ds → Q J H') → wi σ H Q)
    (kg : GEx M X g put is) (kt : TEx M X W0 tt ft) (ke : EEx M X W0 te fe) (hv : (is.all fun j => vs.contains j) = true) : EEx M X W (tGSum M.tabs CD wi g tt te vs) (gSumD fi put ft fe vs) := by
  intro A σ H0 G0 hs0 own η s0 Q I0 hp
  refine ki A σ H0 G0 hs0 own η s0 _ I0 (hp.bind.mono fun ds G1 hs1 s1 H1 S1 J1 h1 J hJ => ⟨J1.tab, hCD _ _ _ _ J1, fun H2 eN T2 a gn na S nS => ?_⟩)
  have I1 := I0.step S1 J1
  obtain ⟨Sx, Jx⟩ := extN_step J1 eN T2
  have ext : ∀ b u, H2 b = some u → upd H2 a (genO a gn) b = some u := fun b u e => by rw [upd_ne (ne_of_none e na)]; exact e
  have no : ∀ ps, genO a gn ≠ HO.tbl ps := fun ps z => by cases z
  have Ja := Jx.extH ext
  have Sa := Sx.trans (Stp.extH (M := M) (G := G1) (hs := hs1) ext)
  obtain ⟨fS1, fS2, fS3⟩ := Ja.free nS
  have extS : ∀ b u, upd H2 a (genO a gn) b = some u → upd (upd H2 a (genO a gn)) S (.lst [.int 0]) b = some u := fun b u e => by rw [upd_ne (ne_of_none e nS)]; exact e
  have neaS : a ≠ S := fun z => by rw [← z, upd_same] at nS; cases nS
  obtain ⟨fa1, fa2, fa3⟩ := Jx.free na
  have his : ∀ j ∈ is, j ∈ vs := fun j hj => List.contains_iff_mem.mp (List.all_eq_true.mp hv j hj)
  -- all that is summed
  cases el : lcF put ft fe (wipeE η vs) ds s1 with
  | ex c p s' => exact absurd el lcF_noex
  | bad => exfalso; rw [el] at h1; exact h1
  | ok ys sE =>
    rw [el] at h1
    have h2 : RPost X.K M σ W G1 hs1 H1 ((R.ofO (intsOf ys) sE).bind fun zs s3 => .ok (.int zs.sum) s3) (fun d G' hs' s' H' => ∀ v, Rep X.K M G' hs' d v → Q v H') := h1
    cases ez : intsOf ys with
    | none => exfalso; rw [ez] at h2; exact h2
    | some zs =>
      rw [ez] at h2
      have hQ : ∀ G' hs' H', Stp M G1 hs1 H1 G' hs' H' → Sim X.K M G' hs' sE H' → Q (.int zs.sum) H' := fun G' hs' H' S' J' => h2 G' hs' H' S' J' _ (rep_int.mpr rfl)
      have eys := intsOf_some ez
      refine ⟨zs, fun n i m H => ∃ G hs s, Stp M G1 hs1 H1 G hs H ∧ Sim X.K M G hs s H ∧ H a = some (genO a gn) ∧ G a = none ∧ a ∉ hs ∧ H S = some (.lst [.int (zs.take (zs.length + 1 - n)).sum]) ∧ G S = none ∧ S ∉ hs ∧ 0 < n ∧ n ≤ zs.length + 1 ∧ i ≤ ds.length ∧ m = ds.length - i ∧
        lcF put ft fe (wipeE η vs) (ds.drop i) s = .ok (ys.drop (zs.length + 1 - n)) sE,
        ⟨ds.length, G1, hs1, s1, Sa.trans (Stp.extH extS), Ja.extH extS, by rw [upd_ne neaS, upd_same], fa1, fa2, by rw [upd_same, Nat.sub_self]; rfl, fS1, fS2, Nat.succ_pos _, Nat.le_refl _, Nat.zero_le _, rfl, by rw [Nat.sub_self]; exact el⟩, ?_⟩
      rintro n i m H ⟨G, hs, s, St, J2, ea, gA, nA, eS, gS, nSh, hn0, hn1, hi, rfl, hr⟩
      refine ⟨ea, eS, ?_⟩
      have noS : ∀ (l : List V) ps, HO.lst l ≠ HO.tbl ps := fun l ps z => by cases z
      have elen : ys.length = zs.length := by rw [eys, List.length_map]
      obtain ⟨stp, go⟩ := hJ G hs s H St J2 i
      cases q : ds[i]? with
      | none =>
        have hn : ds.drop i = [] := List.drop_eq_nil_of_le (List.getElem?_eq_none_iff.mp q)
        rw [hn, lcF] at hr
        injection hr with e1 e2
        have e3 : (ys.drop (zs.length + 1 - n)).length = 0 := by rw [← e1]; rfl
        rw [List.length_drop, elen] at e3
        subst e2
        exact .inl ⟨stp q, by omega, hQ G hs H St J2⟩
      | some d =>
        have hlt : i < ds.length := (List.getElem?_eq_some_iff.mp q).1
        obtain ⟨go1, go2⟩ := go d q
        have hd : ds.drop i = d :: ds.drop (i + 1) := by
          rw [List.drop_eq_getElem_cons hlt]
          congr 1
          rw [List.getElem?_eq_getElem hlt] at q
          exact Option.some.inj q
        rw [hd, lcF] at hr
        refine .inr ⟨go1, fun x H2' y => ?_⟩
        obtain ⟨G2, S2, J3, hx⟩ := go2 x H2' y
        have a2 := S2.away ea nA gA no genO_nofix
        have e2 := S2.kp _ _ ea nA no
        have b2 := S2.away eS nSh gS (noS _)
        have d2 := S2.kp _ _ eS nSh (noS _)
        have SS2 := St.trans S2
        split at hr
        · cases hr
        rename_i η1 e1
        have I2 := (I1.step SS2 J3).wipe vs
        refine kg A _ H2' G2 hs own _ η1 s d x _ I2 hx e1 fun σ2 I3 chg => ⟨wipe_eq chg his, ?_⟩
        refine kt A σ2 H2' G2 hs own η1 s _ I3 ?_
        cases qt : ft η1 s with
        | ex c p s' => rw [qt] at hr; cases hr
        | bad => rw [qt] at hr; cases hr
        | ok b s3 =>
          rw [qt] at hr
          intro G3 hs3 H3 S3 J4
          have a3 := S3.away e2 a2.2 a2.1 no genO_nofix
          have e3 := S3.kp _ _ e2 a2.2 no
          have b3 := S3.away d2 b2.2 b2.1 (noS _)
          have d3 := S3.kp _ _ d2 b2.2 (noS _)
          have SS3 := SS2.trans S3
          have hr2 : (if b = true then (fe η1 s3).nx.bind fun y s2 => (lcF put ft fe (wipeE η vs) (ds.drop (i + 1)) s2).bind fun ys s3 => .ok (y :: ys) s3 else lcF put ft fe (wipeE η vs) (ds.drop (i + 1)) s3) = R.ok (ys.drop (zs.length + 1 - n)) sE := hr
          cases b with
          | false =>
            rw [if_neg Bool.false_ne_true] at hr2 ⊢
            exact ⟨ds.length - (i + 1), by omega, G3, hs3, s3, SS3, J4, e3, a3.1, a3.2, d3, b3.1, b3.2, hn0, hn1, hlt, rfl, hr2⟩
          | true =>
            rw [if_pos rfl] at hr2 ⊢
            have I4 := I3.step S3 J4
            refine ke A σ2 H3 G3 hs3 own η1 s3 _ I4 ?_
            cases qe : fe η1 s3 with
            | ex c p s' => rw [qe] at hr2; cases hr2
            | bad => rw [qe] at hr2; cases hr2
            | ok z s4 =>
              rw [qe] at hr2
              intro G4 hs4 H4 S4 J5 v hv
              have a4 := S4.away e3 a3.2 a3.1 no genO_nofix
              have e4 := S4.kp _ _ e3 a3.2 no
              have b4 := S4.away d3 b3.2 b3.1 (noS _)
              have d4 := S4.kp _ _ d3 b3.2 (noS _)
              have SS4 := SS3.trans S4
              have hr3 : ((lcF put ft fe (wipeE η vs) (ds.drop (i + 1)) s4).bind fun ys s3 => R.ok (z :: ys) s3) = R.ok (ys.drop (zs.length + 1 - n)) sE := hr2
              cases ql : lcF put ft fe (wipeE η vs) (ds.drop (i + 1)) s4 with
              | ex c p s' => rw [ql] at hr3; cases hr3
              | bad => rw [ql] at hr3; cases hr3
              | ok yr s5 =>
                rw [ql] at hr3
                injection hr3 with k1 k2
                subst k2
                have hl2 : zs.length + 1 - n < ys.length := by
                  have : (ys.drop (zs.length + 1 - n)).length = yr.length + 1 := by rw [← k1]; rfl
                  rw [List.length_drop] at this
                  omega
                rw [List.drop_eq_getElem_cons hl2] at k1
                injection k1 with k3 k4
                have hz : ∃ zi, zs[zs.length + 1 - n]? = some zi ∧ z = .int zi := by
                  rw [elen] at hl2
                  refine ⟨zs[zs.length + 1 - n], List.getElem?_eq_getElem hl2, ?_⟩
                  rw [k3]
                  simp only [eys, List.getElem_map]
                obtain ⟨zi, hz1, rfl⟩ := hz
                rw [elen] at hl2
                have en : zs.length + 1 - (n - 1) = zs.length + 1 - n + 1 := by omega
                refine ⟨zi, rep_int.mp hv, hz1, d4, ds.length - (i + 1), G4, hs4, s4, ?_, J5.updU b4.1 b4.2 fS3 (by rw [d4]; exact fun f z => by cases f <;> cases z), ?_, a4.1, a4.2, ?_, b4.1, b4.2, by omega, by omega, hlt, rfl, ?_⟩
                · refine ⟨SS4.gg, SS4.fr, SS4.hp, SS4.hf, fun b u e nb t => ?_, fun b e => ?_⟩
                  · have hbS : b ≠ S := fun z => by
                      have h9 := Sa.kp b u e nb t
                      rw [z, nS] at h9
                      cases h9
                    rw [upd_ne hbS]
                    exact SS4.kp b u e nb t
                  · by_cases z : b = S
                    · rw [z]
                      exact Sa.dm S (nt_none nS)
                    · exact SS4.dm b fun u q => e u (by rw [upd_ne z]; exact q)
                · rw [upd_ne neaS]
                  exact e4
                · rw [upd_same, en, List.take_succ, hz1]
                  simp
                · rw [ql, en, k4]
theorem genC_of {N : List Str} {sc scope : Scope} {own : List (Str × Nat)} (h : genC N sc scope own = true) : BlkOk N sc scope own ∧ (∀ y ∈ scope.names, y.2 ≠ .cell) ∧ scope.isCoroutine = false ∧ scope.names.lookup (".0" : Str) = some NameKind.local := by
  unfold genC at h
  simp only [Bool.and_eq_true, List.all_eq_true, bne_iff_ne, beq_iff_eq] at h
  exact ⟨blkOk_by h.1.1.1, h.1.1.2, h.1.2, h.2⟩
section
variable {c P : Addr} {k : Nat} {tg elt iter : Expr} {ifs : List Expr} {scope : Scope} {own : List (Str × Nat)} {gpos p pos : Pos} {is : List Nat} {fi : Env → DS → R (List D)} {put : D → Env → Option Env} {ft : Env → DS → R Bool} {fe : Env → DS → R D}
theorem de_gany (hc : X.calm = true) (hN : X.N.Nodup) (hr : Room k X.A) (hm : X.mg "any" = none) (TB : LamX.TabB X.base X.mg c P) (hcode : X.env.code = .ref c) (hmT : HasT M.tabs P (X.env.qual ++ "<genexpr>") gpos)
    (hi : DIS M X W tg iter fi) (ok : genC X.N X.env.scope scope own = true) (hgt : ∀ s H C code fp, DG M (GC X X.A.in1.in1 s H scope C code fp) tg put is) (ht : ∀ s H C code fp, DTs M (GC X X.A.in1.in1 s H scope C code fp) W0 ifs ft) (he : ∀ s H C code fp, DE M (GC X X.A.in1.in1 s H scope C code fp) W0 elt fe)
    (hv : (is.all fun j => (own.map (·.2)).contains j) = true := by rfl) (hs : ∀ v, genFold iter X.env v = pure v := by intro _; rfl) (hg : Gl X "any" := by rfl) (hst : starEach [.GeneratorExp elt [⟨tg, iter, ifs, 0⟩] scope gpos] X.env = (false, eval (.GeneratorExp elt [⟨tg, iter, ifs, 0⟩] scope gpos) X.env) :: starEach [] X.env := by rfl) :
    DE M X W (.Call (.Name "any" p) [.GeneratorExp elt [⟨tg, iter, ifs, 0⟩] scope gpos] [] pos) (gAnyD true fi put ft fe (own.map (·.2))) := by
  obtain ⟨wi, pi, ki⟩ := hi.ex
  obtain ⟨g, pg, kg⟩ := gblk_g hgt
  obtain ⟨tt, pt, kt⟩ := gblk_t ht
  obtain ⟨te, pe, ke⟩ := gblk_e he
  obtain ⟨b1, b2, b3, b4⟩ := genC_of ok
  exact ⟨_, pe_gany hc hN hr hg hm TB hcode hmT pi b1 b2 b3 b4 pg pt pe hs hst, gany_sem (true) ki kg kt ke hv⟩
theorem de_gsum (hc : X.calm = true) (hN : X.N.Nodup) (hr : Room k X.A) (hm : X.mg "sum" = none) (TB : LamX.TabB X.base X.mg c P) (hcode : X.env.code = .ref c) (hmT : HasT M.tabs P (X.env.qual ++ "<genexpr>") gpos)
    (hi : DIS M X W tg iter fi) (ok : genC X.N X.env.scope scope own = true) (hgt : ∀ s H C code fp, DG M (GC X X.A.in1.in1 s H scope C code fp) tg put is) (ht : ∀ s H C code fp, DTs M (GC X X.A.in1.in1 s H scope C code fp) W0 ifs ft) (he : ∀ s H C code fp, DE M (GC X X.A.in1.in1 s H scope C code fp) W0 elt fe)
    (hv : (is.all fun j => (own.map (·.2)).contains j) = true := by rfl) (hs : ∀ v, genFold iter X.env v = pure v := by intro _; rfl) (hg : Gl X "sum" := by rfl) (hst : starEach [.GeneratorExp elt [⟨tg, iter, ifs, 0⟩] scope gpos] X.env = (false, eval (.GeneratorExp elt [⟨tg, iter, ifs, 0⟩] scope gpos) X.env) :: starEach [] X.env := by rfl) :
    DE M X W (.Call (.Name "sum" p) [.GeneratorExp elt [⟨tg, iter, ifs, 0⟩] scope gpos] [] pos) (gSumD fi put ft fe (own.map (·.2))) := by
  obtain ⟨wi, pi, ki⟩ := hi.ex
  obtain ⟨g, pg, kg⟩ := gblk_g hgt
  obtain ⟨tt, pt, kt⟩ := gblk_t ht
  obtain ⟨te, pe, ke⟩ := gblk_e he
  obtain ⟨b1, b2, b3, b4⟩ := genC_of ok
  exact ⟨_, pe_gsum (fun _ => True) (fun _ _ _ _ I _ => TB.code.keeps I.bk) hc hN hr hg hm TB.bm hcode hmT pi b1 b2 b3 b4 pg pt pe hs hst, gsum_sem (fun _ _ _ _ _ => trivial) ki kg kt ke hv⟩
end
end
section
variable {X : Cx} {M : Mp}
theorem room_gen {k : Nat} {A : Around} {env : PySem.Env} (r : Room (k + 1) A) : Room k (A.in1.in1.deeper env) :=
  ⟨r.hd, by have := r.dp; show A.depth + 1 + 3 * k + 5 < _; omega, by have := r.un; show A.units + 1 + 1 + 3 + 16 * k + 200 < _; omega⟩
theorem genE {s : Shared} {H : Hp} {scope : Scope} {C : Addr} {code : Value} {fp : List Addr} {k : Nat} {e : Expr} {fb : Env → DS → R D} (hr : Room (k + 1) X.A)
    (h : Room k (GC X X.A.in1.in1 s H scope C code fp).A → (GC X X.A.in1.in1 s H scope C code fp).A.units + 64 < cLine → Takes (GC X X.A.in1.in1 s H scope C code fp) W0 → Flat W0 → DE M (GC X X.A.in1.in1 s H scope C code fp) W0 e fb) : DE M (GC X X.A.in1.in1 s H scope C code fp) W0 e fb :=
  h (room_gen hr) (room_gen hr).units L2.takes0 (fun _ _ _ _ _ z => z)
theorem genT {s : Shared} {H : Hp} {scope : Scope} {C : Addr} {code : Value} {fp : List Addr} {k : Nat} {e : List Expr} {fb : Env → DS → R Bool} (hr : Room (k + 1) X.A)
    (h : Room k (GC X X.A.in1.in1 s H scope C code fp).A → (GC X X.A.in1.in1 s H scope C code fp).A.units + 64 < cLine → Takes (GC X X.A.in1.in1 s H scope C code fp) W0 → Flat W0 → DTs M (GC X X.A.in1.in1 s H scope C code fp) W0 e fb) : DTs M (GC X X.A.in1.in1 s H scope C code fp) W0 e fb :=
  h (room_gen hr) (room_gen hr).units L2.takes0 (fun _ _ _ _ _ z => z)
end
end DL
set_option Elab.async false
set_option linter.all false
set_option maxRecDepth 100000
set_option maxHeartbeats 2000000
namespace DL
open PySem PySem.Spec PyProof.Rows L2
def zipL : List D → List D → List D
  | a :: l, b :: m => .tup [a, b] :: zipL l m
  | _, _ => []
def enumL (k : Int) : List D → List D
  | [] => []
  | d :: l => .tup [.int k, d] :: enumL (k + 1) l
theorem enumL_get : ∀ {l : List D} {k : Int} {i : Nat}, (enumL k l)[i]? = (l[i]?).map fun d => D.tup [.int (k + i), d]
  | [], k, i => by simp [enumL]
  | d :: l, k, 0 => by simp [enumL]
  | d :: l, k, i + 1 => by
    rw [enumL, List.getElem?_cons_succ, List.getElem?_cons_succ, enumL_get]
    have e : k + 1 + (i : Int) = k + ((i + 1 : Nat) : Int) := by omega
    rw [e]
def seqO : D → Option (Bool × List D)
  | .lst l => some (true, l)
  | .scr l => some (true, l.map D.int)
  | .tup l => some (false, l)
  | _ => none
noncomputable def zipO : List D → Option (List D)
  | [a, b] => (match seqO a, seqO b with
    | some (k, l), some (k', m) => if k = k' then some (zipL l m) else none
    | _, _ => none)
  | _ => none
def enumO : List D → Option (List D)
  | [.lst l] => some (enumL 0 l)
  | [.scr l] => some (enumL 0 (l.map D.int))
  | _ => none
section
variable {M : Mp} {X : Cx} {W : WX} {K : PySem.W.Frag}
/-- a still sequence, as the walk sees it: k: a list -/
def Stl (K : PySem.W.Frag) (G : Hp) (k : Bool) (a : Addr) (vs : List V) : Prop := if k = true then SqL K G a vs else SqT K G a vs
theorem rep_seq {G : Hp} {hs : List Addr} {d : D} {v : V} {k : Bool} {l : List D} (h : Rep K M G hs d v) (e : seqO d = some (k, l)) : ∃ a vs, v = .ref a ∧ Stl K G k a vs ∧ RepL K M G hs l vs := by
  unfold seqO at e
  split at e
  · cases e
    obtain ⟨a, vs, rfl, h1, h2⟩ := rep_lst.mp h
    exact ⟨a, vs, rfl, SqL.of h1, h2⟩
  · cases e
    obtain ⟨a, rfl, h1⟩ := rep_scr.mp h
    exact ⟨a, _, rfl, h1, RepL.ints.mpr rfl⟩
  · cases e
    obtain ⟨a, vs, rfl, h1, h2⟩ := rep_tup h
    exact ⟨a, vs, rfl, h1, h2⟩
  · cases e
theorem Stl.same {G G' : Hp} {k : Bool} {a : Addr} {vs : List V} (e : Same G G') (h : Stl K G k a vs) : Stl K G' k a vs := by
  unfold Stl at h ⊢
  cases k with
  | true => exact e.seq h
  | false => exact same_seqT e h
theorem rep_two {G : Hp} {hs : List Addr} {p : Addr} {a b : D} {x y : V} (g : G p = none) (ha : Rep K M G hs a x) (hb : Rep K M G hs b y) : Rep K M (upd G p (.tup [x, y])) hs (.tup [a, b]) (.ref p) := rep_newT g (repL_cons.mpr ⟨x, [y], rfl, ha, repL_cons.mpr ⟨y, [], rfl, hb, repL_nil.mpr rfl⟩⟩)
theorem ite_c {G : Hp} {hs : List Addr} {a : Addr} {xs : List V} {l : List D} (h1 : SqL K G a xs) (r1 : RepL K M G hs l xs) : ItC K M G hs (Ite K a) (enumL 0 l) := by
  intro G2 hs2 s2 H2 gg pp J2 i
  have g1 := J2.sub.seq (gg.seq h1)
  rw [enumL_get]
  refine ⟨fun e => ⟨xs, g1, ?_⟩, fun d e => ?_⟩
  · rw [← r1.length]
    rw [Option.map_eq_none_iff] at e
    exact List.getElem?_eq_none_iff.mp e
  · rw [Option.map_eq_some_iff] at e
    obtain ⟨da, e1, rfl⟩ := e
    obtain ⟨x, hx, rx⟩ := r1.get e1
    refine ⟨⟨xs, x, g1, hx⟩, fun v H' q => ?_⟩
    obtain ⟨T, x', rfl, hT, rfl, q1⟩ := q
    have z1 := q1 xs g1
    rw [hx] at z1
    cases z1
    obtain ⟨S, J⟩ := J2.laid (o := .tup [.int (i : Nat), x]) hT
    refine ⟨_, S, J, rep_two (J2.free hT).1 (rep_int.mpr ?_) (rx.mono gg pp)⟩
    rw [Int.zero_add]
def signs (x : Str) : List D := x.cps.toList.map fun c => D.str ⟨#[c]⟩
def strO : D → Option (List D)
  | .str x => some (signs x)
  | _ => none
theorem its_c {G : Hp} {hs : List Addr} {x : Str} : ItC K M G hs (Its x) (signs x) := by
  intro G2 hs2 s2 H2 gg pp J2 i
  unfold signs
  rw [List.getElem?_map]
  refine ⟨fun e => ?_, fun d e => ?_⟩
  · rw [Option.map_eq_none_iff, Array.getElem?_toList] at e
    exact Array.getElem?_eq_none_iff.mp e
  · rw [Option.map_eq_some_iff] at e
    obtain ⟨c, e1, rfl⟩ := e
    rw [Array.getElem?_toList] at e1
    refine ⟨(Array.getElem?_eq_some_iff.mp e1).1, fun v H' q => ?_⟩
    obtain ⟨rfl, c', e2, rfl⟩ := q
    rw [e1] at e2
    cases e2
    exact ⟨G2, Stp.refl _ _ _ _, J2, rep_str.mpr rfl⟩
variable {e e2 : Expr} {g : Env → DS → R (List D)} {f : Env → DS → R D} {p pos tpos : Pos} {elts : List Expr} {kk : Nat}
theorem di_enum (hm : X.mg "enumerate" = none) (ha : DA M X W [e] g) (hg : Gl X "enumerate" := by rfl) (hs : starEach [e] X.env = [(false, eval e X.env)] := by rfl) :
    DI M X W (.Tuple elts kk tpos) (.Call (.Name "enumerate" p) [e] [] pos) (rngD enumO g) := by
  obtain ⟨t, pa, k⟩ := ha.ex
  refine ⟨_, pi_enum hg hm pa hs, fun A σ H G hs own η s Q I r => ?_⟩
  refine k A σ H G hs own η s _ I (r.bind.mono fun ds G1 hs1 s1 H1 S1 J1 q vs hv => ?_)
  obtain ⟨xs, eo, q2⟩ := q.ofO
  clear q
  have key : ∀ (d : D) (l : List D), ds = [d] → seqO d = some (true, l) → xs = enumL 0 l → ∃ a xs, vs = [.ref a] ∧ SqL X.K H1 a xs ∧ Q (Ite X.K a) H1 := fun d l ed es ex => by
    subst ed ex
    rw [repL_cons] at hv
    obtain ⟨v, vr, rfl, h1, h3⟩ := hv
    rw [repL_nil] at h3
    subst h3
    obtain ⟨aa, vs1, rfl, t1, r1⟩ := rep_seq h1 es
    exact ⟨aa, vs1, rfl, J1.sub.seq t1, q2 G1 hs1 H1 (Stp.refl _ _ _ _) J1 _ (ite_c t1 r1)⟩
  unfold enumO at eo
  split at eo
  · cases eo
    exact key _ _ rfl rfl rfl
  · cases eo
    exact key _ _ rfl rfl rfl
  · cases eo
theorem di_str {tg : Expr} (h : DE M X W e f) : DI M X W tg e (iterD strO f) := by
  obtain ⟨t, p, k⟩ := h.ex
  refine ⟨_, pi_str p, fun A σ H G hs own η s Q I r => ?_⟩
  refine k A σ H G hs own η s _ I (r.bind.mono fun d G1 hs1 s1 H1 S1 J1 q v hv => ?_)
  obtain ⟨ds, eo, q⟩ := q.ofO
  unfold strO at eo
  split at eo
  · cases eo
    rw [rep_str] at hv
    subst hv
    exact ⟨_, rfl, q G1 hs1 H1 (Stp.refl _ _ _ _) J1 _ its_c⟩
  · cases eo
end
end DL
set_option Elab.async false
set_option linter.all false
set_option maxRecDepth 100000
set_option maxHeartbeats 2000000
namespace DL
open PySem PySem.Spec PyProof.Rows L2
def min3O : List D → Option D
  | [.int i, .int j, .int k] => some (.int (min (min i j) k))
  | _ => none
def min4O : List D → Option D
  | [.int i, .int j, .int k, .int l] => some (.int (min (min (min i j) k) l))
  | _ => none
theorem min3_int {i j k : Int} : min3O [.int i, .int j, .int k] = some (.int (min (min i j) k)) := rfl
theorem min4_int {i j k l : Int} : min4O [.int i, .int j, .int k, .int l] = some (.int (min (min (min i j) k) l)) := rfl
section
variable {η : DL.Env} {s : DS} {fi : DL.Env → DS → R (List D)} {put : D → DL.Env → Option DL.Env} {ft : DL.Env → DS → R Bool} {fe : DL.Env → DS → R D} {vs : List Nat} {stop : Bool} {d : D} {ds : List D}
theorem gSumD_eq : gSumD fi put ft fe vs η s = (fi η s).bnd fun ds s1 => (lcF put ft fe (wipeE η vs) ds s1).bnd fun ys s2 => (R.ofO (intsOf ys) s2).bnd fun zs s3 => .ok (.int zs.sum) s3 := rfl
theorem gAnyD_eq : gAnyD stop fi put ft fe vs η s = (fi η s).bnd fun ds s1 => anyF stop put ft fe (wipeE η vs) ds s1 := rfl
theorem anyF_nil : anyF stop put ft fe η [] s = .ok (.bl (!stop)) s := rfl
theorem anyF_cons : anyF stop put ft fe η (d :: ds) s = match put d η with
    | none => .bad
    | some η1 => (ft η1 s).nx.bind fun b s1 => if b = true then (fe η1 s1).nx.bind fun y s2 => (R.ofO (asB y) s2).bind fun t s3 => if t = stop then .ok (.bl stop) s3 else anyF stop put ft fe η ds s3 else anyF stop put ft fe η ds s1 := by
  rw [anyF]
  try rfl
theorem intsOf_mapf {γ : Type} {f : γ → Int} : ∀ {l : List γ}, intsOf (l.map fun a => D.int (f a)) = some (l.map f)
  | [] => rfl
  | a :: l => by
    rw [List.map_cons, intsOf, intsOf_mapf]
    rfl
/-- any, all over what changes nothing -/
theorem anyF_pure {γ : Type} (e : γ → D) (t : γ → Bool) (y : γ → Bool) : ∀ (l : List γ), (∀ a ∈ l, ∃ η1, put (e a) η = some η1 ∧ ft η1 s = .ok (t a) s ∧ (t a = true → fe η1 s = .ok (.bl (y a)) s)) → anyF true put ft fe η (l.map e) s = .ok (.bl (l.any fun a => t a && y a)) s
  | [], _ => rfl
  | a :: l, h => by
    obtain ⟨η1, e1, e2, e3⟩ := h a List.mem_cons_self
    have ih := anyF_pure e t y l fun b hb => h b (List.mem_cons_of_mem _ hb)
    rw [List.map_cons, anyF_cons, e1]
    simp only [e2, R.nx, R.bind]
    cases q : t a with
    | false => simp only [Bool.false_eq_true, if_false, ih, List.any_cons, q, Bool.false_and, Bool.false_or]
    | true =>
      rw [e3 q]
      simp only [if_true, R.ofO, asB, List.any_cons, q, Bool.true_and]
      cases q2 : y a with
      | false => simp only [Bool.false_eq_true, if_false, ih, Bool.false_or]
      | true => simp only [if_true, Bool.true_or]
end
end DL
set_option Elab.async false
set_option linter.all false
set_option maxRecDepth 100000
set_option maxHeartbeats 2000000
namespace DL
open PySem PySem.Spec PyProof.Rows L2
def isI : D → Bool
  | .int _ => true
  | _ => false
def isS : D → Bool
  | .str _ => true
  | _ => false
def flt (x : D) (l : List D) : Bool := (isI x && l.all isI) || (isS x && l.all isS)
def inStr (i j : Str) : Bool := !(Builtin.Str.occurrences j i 0 j.length 1).isEmpty
def opIn : D → D → Option D
  | x, .lst l => if flt x l = true then some (.bl (l.any fun y => eqB y x)) else none
  | x, .tup l => if flt x l = true then some (.bl (l.any fun y => eqB y x)) else none
  | x, .scr l => if flt x (l.map D.int) = true then some (.bl ((l.map D.int).any fun y => eqB y x)) else none
  | .str i, .str j => some (.bl (inStr i j))
  | _, _ => none
def opNin : D → D → Option D
  | x, .lst l => if flt x l = true then some (.bl (!(l.any fun y => eqB y x))) else none
  | x, .tup l => if flt x l = true then some (.bl (!(l.any fun y => eqB y x))) else none
  | x, .scr l => if flt x (l.map D.int) = true then some (.bl (!((l.map D.int).any fun y => eqB y x))) else none
  | .str i, .str j => some (.bl (!(inStr i j)))
  | _, _ => none
section
variable {M : Mp} {X : Cx} {K : PySem.W.Frag}
theorem in_flat {G : Hp} {hs : List Addr} {x : D} {v : V} : ∀ {l : List D} {vs : List V}, flt x l = true → Rep K M G hs x v → RepL K M G hs l vs → flatV v = true ∧ vs.all flatV = true ∧ inV v vs = l.any fun y => eqB y x
  | [], vs, h, hx, hl => by
    rw [repL_nil] at hl
    subst hl
    refine ⟨?_, rfl, rfl⟩
    unfold flt at h
    cases x <;> simp [isI, isS] at h
    · rw [rep_int] at hx; subst hx; rfl
    · rw [rep_str] at hx; subst hx; rfl
  | y :: l, vs, h, hx, hl => by
    rw [repL_cons] at hl
    obtain ⟨w, vr, rfl, hy, hr⟩ := hl
    unfold flt at h
    simp only [List.all_cons, Bool.or_eq_true, Bool.and_eq_true] at h
    have h2 : flt x l = true := by
      unfold flt
      simp only [Bool.or_eq_true, Bool.and_eq_true]
      rcases h with ⟨a, b, c⟩ | ⟨a, b, c⟩
      · exact .inl ⟨a, c⟩
      · exact .inr ⟨a, c⟩
    obtain ⟨i1, i2, i3⟩ := in_flat h2 hx hr
    rcases h with ⟨a, b, _⟩ | ⟨a, b, _⟩
    · cases x <;> simp [isI] at a
      cases y <;> simp [isI] at b
      rw [rep_int] at hx hy
      subst hx hy
      refine ⟨rfl, by rw [List.all_cons, i2]; rfl, ?_⟩
      unfold inV at i3 ⊢
      rw [List.any_cons, List.any_cons, i3]
      congr 1
    · cases x <;> simp [isS] at a
      cases y <;> simp [isS] at b
      rw [rep_str] at hx hy
      subst hx hy
      refine ⟨rfl, by rw [List.all_cons, i2]; rfl, ?_⟩
      unfold inV at i3 ⊢
      rw [List.any_cons, List.any_cons, i3]
      congr 1
theorem RV.flt {G H : Hp} {hs : List Addr} {s : DS} {x : D} {l : List D} {v : V} (h : RV K M G hs H x v) (f : flt x l = true) : Rep K M G hs x v := by
  rcases h with h | ⟨a, e, h⟩
  · exact h
  · unfold DL.flt at f
    cases x <;> simp [isI, isS] at f <;> exact h.elim
end
theorem opIn_lst {x : D} {l : List D} (h : flt x l = true) : opIn x (.lst l) = some (.bl (l.any fun y => eqB y x)) := by
  unfold opIn
  cases x <;> exact if_pos h
theorem opIn_tup {x : D} {l : List D} (h : flt x l = true) : opIn x (.tup l) = some (.bl (l.any fun y => eqB y x)) := by
  unfold opIn
  cases x <;> exact if_pos h
theorem opNin_lst {x : D} {l : List D} (h : flt x l = true) : opNin x (.lst l) = some (.bl (!(l.any fun y => eqB y x))) := by
  unfold opNin
  cases x <;> exact if_pos h
theorem opNin_tup {x : D} {l : List D} (h : flt x l = true) : opNin x (.tup l) = some (.bl (!(l.any fun y => eqB y x))) := by
  unfold opNin
  cases x <;> exact if_pos h
theorem eqB_ii {a b : Int} : eqB (.int a) (.int b) = (a == b) := rfl
theorem eqB_ss {a b : Str} : eqB (.str a) (.str b) = (a == b) := rfl
end DL
set_option Elab.async false
set_option linter.all false
set_option maxRecDepth 100000
set_option maxHeartbeats 2000000
namespace DL
open PySem PySem.Spec PyProof.Rows L2
theorem opNeg_int {a : Int} : opNeg (.int a) = some (.int (-a)) := rfl
theorem listO_l {l : List D} : listO [.lst l] = some (.lst l) := rfl
theorem listO_t {l : List D} : listO [.tup l] = some (.lst l) := rfl
theorem tupleO_l {l : List D} : tupleO [.lst l] = some (.tup l) := rfl
theorem tupleO_t {l : List D} : tupleO [.tup l] = some (.tup l) := rfl
theorem zipO_ll {l m : List D} : zipO [.lst l, .lst m] = some (zipL l m) := by simp [zipO, seqO]
theorem zipO_tt {l m : List D} : zipO [.tup l, .tup m] = some (zipL l m) := by simp [zipO, seqO]
theorem enumO_l {l : List D} : enumO [.lst l] = some (enumL 0 l) := rfl
theorem sumO_map {γ : Type} {f : γ → Int} {l : List γ} : sumO [.lst (l.map fun a => D.int (f a))] = some (.int (l.map f).sum) := by
  simp [sumO, intsOf_mapf]
theorem lenO_l {l : List D} : lenO [.lst l] = some (.int (l.length : Nat)) := rfl
theorem lenO_t {l : List D} : lenO [.tup l] = some (.int (l.length : Nat)) := rfl
theorem opEq_ts {l : List D} {x : Str} : opEq (.tup l) (.str x) = some (.bl false) := by
  unfold opEq
  split
  · simp [eqB]
  · simp [seqStr]
theorem opEq_ls {l : List D} {x : Str} : opEq (.lst l) (.str x) = some (.bl false) := by
  unfold opEq
  split
  · simp [eqB]
  · simp [seqStr]
theorem opEq_st {l : List D} {x : Str} : opEq (.str x) (.tup l) = some (.bl false) := by
  unfold opEq
  split
  · simp [eqB]
  · simp [seqStr]
theorem opEq_sl {l : List D} {x : Str} : opEq (.str x) (.lst l) = some (.bl false) := by
  unfold opEq
  split
  · simp [eqB]
  · simp [seqStr]
theorem opNe_ts {l : List D} {x : Str} : opNe (.tup l) (.str x) = some (.bl true) := by
  unfold opNe
  split
  · simp [eqB]
  · simp [seqStr]
theorem opNe_ls {l : List D} {x : Str} : opNe (.lst l) (.str x) = some (.bl true) := by
  unfold opNe
  split
  · simp [eqB]
  · simp [seqStr]
theorem opNe_st {l : List D} {x : Str} : opNe (.str x) (.tup l) = some (.bl true) := by
  unfold opNe
  split
  · simp [eqB]
  · simp [seqStr]
theorem opNe_sl {l : List D} {x : Str} : opNe (.str x) (.lst l) = some (.bl true) := by
  unfold opNe
  split
  · simp [eqB]
  · simp [seqStr]
theorem frzL_nil {η : DL.Env} : frzL [] η = η := rfl
theorem frzL_cons {i : Nat} {is : List Nat} {η : DL.Env} : frzL (i :: is) η = frzL is (frzE η i) := rfl
theorem frzE_z {d : D} {η : DL.Env} (h : notObj d = true) : frzE (.o d :: η) 0 = .v d :: η := by simp [frzE, h]
theorem frzE_zl {l : List D} {η : DL.Env} : frzE (.o (.lst l) :: η) 0 = .v (.lst l) :: η := frzE_z rfl
theorem frzE_zd {l : List (D × D)} {η : DL.Env} : frzE (.o (.dic l) :: η) 0 = .o (.dic l) :: η := rfl
theorem frzE_zv {d : D} {η : DL.Env} : frzE (.v d :: η) 0 = .v d :: η := by simp [frzE]
theorem frzE_zn {η : DL.Env} : frzE (.no :: η) 0 = .no :: η := by simp [frzE]
theorem frzE_s {x : Sl} {η : DL.Env} {n : Nat} : frzE (x :: η) (n + 1) = x :: frzE η n := by
  unfold frzE
  simp only [List.getElem?_cons_succ]
  split
  · split <;> simp [*]
  · rfl
def anyPut (o : Option DL.Env) (f : DL.Env → R D) : R D := match o with
  | none => .bad
  | some η => f η
theorem anyPut_some {η : DL.Env} {f : DL.Env → R D} : anyPut (some η) f = f η := rfl
end DL
set_option Elab.async false
set_option linter.all false
set_option maxRecDepth 100000
set_option maxHeartbeats 2000000
namespace DL
open PySem PySem.Spec PyProof.Rows L2
section
variable {M : Mp} {X : Cx} {W : WX} {a b c d : Expr} {fa fb fc fd : Env → DS → R D} {pos : Pos}
def ch3D (o o' o'' : D → D → Option D) (fa fb fc fd : Env → DS → R D) : Env → DS → R D := fun η s => (fa η s).bind fun x s1 => (fb η s1).bind fun y s2 => (R.ofO (o (deref s2 x) (deref s2 y)) s2).bind fun z s3 =>
  (R.ofO (asB z) s3).bind fun k s3 => if k = true then (fc η s3).bind fun w s4 => (R.ofO (o' (deref s4 y) (deref s4 w)) s4).bind fun z2 s5 =>
    (R.ofO (asB z2) s5).bind fun k2 s5 => if k2 = true then (fd η s5).bind fun q s6 => R.ofO (o'' (deref s6 w) (deref s6 q)) s6 else .ok (.bl false) s5 else .ok (.bl false) s3
theorem ch3D_eq {o o' o'' : D → D → Option D} {η : DL.Env} {s : DS} : ch3D o o' o'' fa fb fc fd η s = (fa η s).bnd fun x s1 => (fb η s1).bnd fun y s2 => (R.ofO (o (deref s2 x) (deref s2 y)) s2).bnd fun z s3 =>
  (R.ofO (asB z) s3).bnd fun k s3 => if k = true then (fc η s3).bnd fun w s4 => (R.ofO (o' (deref s4 y) (deref s4 w)) s4).bnd fun z2 s5 =>
    (R.ofO (asB z2) s5).bnd fun k2 s5 => if k2 = true then (fd η s5).bnd fun q s6 => R.ofO (o'' (deref s6 w) (deref s6 q)) s6 else .ok (.bl false) s5 else .ok (.bl false) s3 := rfl
end
end DL
set_option Elab.async false
set_option linter.all false
set_option maxRecDepth 100000
set_option maxHeartbeats 2000000
namespace DL
open PySem PySem.Spec PyProof.Rows L2
structure MthD (M : Mp) (X : Cx) (T id : String) (ty : D → Bool) (o : D → List D → Option D) : Prop where
  ex : ∃ r, MtR X id r ∧ (∀ (G : Hp) (hs : List Addr) (s : DS) (H : Hp) (x : D) (v : V), Sim X.K M G hs s H → RV X.K M G hs H x v → ty x = true → tyV X.K T v H) ∧
    (∀ (G : Hp) (hs : List Addr) (s : DS) (H : Hp) (x z : D) (ds : List D) (v : V) (vs : List V) (Q : VK), Sim X.K M G hs s H → RV X.K M G hs H x v → RVL X.K M G hs H ds vs → o x ds = some z →
      (∀ G' H', Stp M G hs H G' hs H' → Sim X.K M G' hs s H' → ∀ w, Rep X.K M G' hs z w → Q w H') → r v vs H Q)
def mthD (ty : D → Bool) (o : D → List D → Option D) (fo : Env → DS → R D) (g : Env → DS → R (List D)) : Env → DS → R D := fun η s => (fo η s).bind fun x s1 => if ty (deref s1 x) = true then (g η s1).bind fun ds s2 => R.ofO (o (deref s2 x) (ds.map (deref s2))) s2 else .bad
section
variable {M : Mp} {X : Cx} {W : WX} {o e : Expr} {es : List Expr} {name : Str} {T id : String} {fo : Env → DS → R D} {g : Env → DS → R (List D)} {ty : D → Bool} {q : D → List D → Option D} {apos cpos : Pos}
theorem de_mth (pa : PlainAttrs T) (slot : Slot T name id) (hty : typeOf (.builtin id) = pure (.type "method_descriptor")) (hm : MthD M X T id ty q) (ho : DB M X W o fo) (ha : DAB M X W (e :: es) g)
    (hbase : attributeBase o name X.env (eval o X.env) = eval o X.env := by rfl)
    (hfew : ((backTo cpos (starEach (e :: es) X.env)).all (fun x => !x.1) && (backToKw cpos (keywordEach [] X.env)).all (fun x => x.1.isSome)
      && decide ((e :: es).length + ([] : List Keyword).length + (if ([] : List Keyword).isEmpty then 0 else 1) < 30)) = true := by rfl)
    (hline : (apos.endLine == cpos.line) = true := by rfl) (hse : starEach (e :: es) X.env = (false, eval e X.env) :: starEach es X.env := by rfl) (hplain : (backTo cpos (starEach es X.env)).any (·.1) = false := by rfl) :
    DE M X W (.Call (.Attribute o name apos) (e :: es) [] cpos) (mthD ty q fo g) := by
  obtain ⟨r, hr, hT, kw⟩ := hm.ex
  obtain ⟨t, p, h⟩ := ho.ex
  obtain ⟨ta, pa2, k⟩ := ha.ex
  refine ⟨_, pe_bm pa slot hty hr p pa2 hbase hfew hline hse hplain, fun A σ H G hs own η s Q I hp => ?_⟩
  refine h A σ H G hs own η s _ I (hp.bind.mono fun x G1 hs1 s1 H1 S1 J1 h1 v hv => ?_)
  split at h1
  · rename_i ht
    refine ⟨hT _ _ _ _ _ _ J1 (hv.read J1) ht, k A σ H1 G1 hs1 own η s1 _ (I.step S1 J1) (h1.bind.mono fun ds G2 hs2 s2 H2 S2 J2 h2 vs hvs => ?_)⟩
    obtain ⟨z, e2, k2⟩ := h2.ofO
    exact kw G2 hs2 s2 H2 _ z _ v vs Q J2 ((hv.step S2).read J2) (hvs.read J2) e2 fun G3 H3 S3 J3 w hw => k2 G3 hs2 H3 S3 J3 w hw
  · exact h1.elim
theorem u65 {k : Nat} {A : Around} (r : Room k A) : A.units + 65 < cLine := by have := r.un; omega
end
theorem mthD_eq {ty : D → Bool} {o : D → List D → Option D} {fo : Env → DS → R D} {g : Env → DS → R (List D)} {η : Env} {s : DS} : mthD ty o fo g η s = (fo η s).bnd fun x s1 => if ty (deref s1 x) = true then (g η s1).bnd fun ds s2 => R.ofO (o (deref s2 x) (ds.map (deref s2))) s2 else .bad := rfl
end DL
set_option Elab.async false
set_option linter.all false
set_option maxRecDepth 100000
set_option maxHeartbeats 2000000
namespace DL
open PySem PySem.Spec PyProof.Rows L2
def tPl (t : TE) : TE := fun σ H Q => t σ H fun v H' => ∃ d u, H' d = some u ∧ Mut (some u) ∧ ∀ od, Q v (upd H' d (.frz od u))
theorem pe_plock {X : Cx} {e : Expr} {t : TE} (h : PE X e t) : PE X e (tPl t) := by
  refine ⟨fun pins s σ H Q I hw => ?_⟩
  refine thn (h.run pins s σ _ _ I hw) fun v s1 ⟨x, H1, I2, r, d, u, hd, mu, q⟩ => ?_
  obtain ⟨od, I3⟩ := I2.lock hd mu
  exact ⟨x, _, I3, r, q od⟩
def isDic : D → Bool
  | .dic _ => true
  | _ => false
section
variable {M : Mp} {X : Cx} {W : WX} {K : PySem.W.Frag} {G G1 H H1 : Hp} {hs hs1 : List Addr} {s : DS}
/-- what no one else has is written -/
theorem Sim.poke {p : Addr} {o u : HO} (J : Sim K M G hs s H) (e : H p = some u) (ux : ∀ f, u ≠ tb2 f) (h : p ∉ hs) (g : G p = none) (t : ¬ inTab M p) : Sim K M G hs s (upd H p o) where
  sub := same_upd2 J.sub g
  len := J.len
  nd := J.nd
  hG := J.hG
  han := fun k a d e1 e2 => RepAt.upd (J.han k a d e1 e2) fun z => h (by rw [← z]; exact List.mem_of_getElem? e1)
  tab := tabs_upd J.tab t (fun f z => by rw [e] at z; exact ux f (Option.some.inj z))
  tG := J.tG
theorem Stp.poke {p : Addr} {o : HO} (S : Stp M G hs H G1 hs1 H1) (h0 : Nt H p) : Stp M G hs H G1 hs1 (upd H1 p o) :=
  ⟨S.gg, S.fr, S.hp, S.hf, fun a u e n t => by
    rw [upd_ne (fun z => h0.no (by rw [← z]; exact e) t)]
    exact S.kp a u e n t, fun a q => by
    by_cases z : a = p
    · rw [z]; exact h0
    · exact S.dm a fun u e => q u (by rw [upd_ne z]; exact e)⟩
theorem at_dic {p : Addr} {kvs : List (D × D)} (h : At K M G hs H p (.dic kvs)) : ∃ l, H p = some (.dK l) ∧ RepD K M G hs kvs l := h
theorem lock_rep {p : Addr} {kvs : List (D × D)} {l : List (Key × V)} {od : Obj} (g : G p = none) (h : RepD K M G hs kvs l) : Rep K M (upd G p (.frz od (.dK l))) hs (.dic kvs) (.ref p) :=
  rep_dic.mpr ⟨p, od, l, rfl, upd_same, h.mono (same_upd g) (Pre.refl _)⟩
/-- a new dict, as a thing that stays -/
def calmDD (f : Env → DS → R D) : Env → DS → R D := fun η s => (f η s).bind fun d s1 => if isDic d = true then .ok d s1 else .bad
theorem DF.deD {e : Expr} {f : Env → DS → R D} (h : DF M X W e f) : DE M X W e (calmDD f) := by
  obtain ⟨t, p, h⟩ := h.ex
  refine ⟨_, pe_plock p, fun A σ H G hs own η s Q I hp => h A σ H G hs own η s _ I ?_⟩
  unfold calmDD at hp
  cases q : f η s with
  | ok d s1 =>
    rw [q] at hp
    have hp2 : RPost X.K M σ W G hs H (if isDic d = true then R.ok d s1 else .bad) (fun d G' hs' _ H' => ∀ v, Rep X.K M G' hs' d v → Q v H') := hp
    intro G1 hs1 H1 S1 J1 p hp0 fr
    cases d with
    | dic kvs =>
      obtain ⟨l, hl, hr⟩ := at_dic fr.at_
      refine ⟨p, _, hl, trivial, fun od => ?_⟩
      have S2 := (S1.poke (o := .frz od (.dK l)) hp0).still (o := .frz od (.dK l)) hp0 fr.g
      have J2 := (J1.poke (o := .frz od (.dK l)) hl (fun f z => by cases f <;> cases z) fr.h fr.g fr.t).still upd_same fr.h fr.t fr.g (fun ps z => by cases z)
      exact hp2 _ hs1 _ S2 J2 _ (lock_rep fr.g hr)
    | _ => exact hp2.elim
  | ex c p s1 => rw [q] at hp; exact hp
  | bad => rw [q] at hp; exact hp
/-- a name that owns a dict owns it no more -/
def frzDB (i : Nat) (g : Env → DS → F) : Env → DS → F := fun η s => match η[i]? with
  | some (.o (.dic kvs)) => g (η.set i (.v (.dic kvs))) s
  | _ => .bad
def kEq : D → D → Bool
  | .int a, .int b => decide (a = b)
  | .str a, .str b => decide (a = b)
  | _, _ => false
def toK : D → Option Key
  | .int i => some (.inl i)
  | .str x => some (.inr x)
  | _ => none
theorem toK_some {d : D} {k : Key} (h : toK d = some k) : keyD k = d := by
  cases d <;> simp [toK] at h <;> subst h <;> rfl
theorem toK_keyD (k : Key) : toK (keyD k) = some k := by cases k <;> rfl
theorem kEq_keyD (a b : Key) : kEq (keyD a) (keyD b) = decide (a = b) := by
  cases a <;> cases b <;> simp [keyD, kEq]
def valD (kvs : List (D × D)) (k : D) : Option D := (kvs.find? fun p => kEq p.1 k).map (·.2)
def putD (kvs : List (D × D)) (k v : D) : List (D × D) := if (kvs.any fun p => kEq p.1 k) = true then kvs.map (fun p => if kEq p.1 k = true then (p.1, v) else p) else kvs ++ [(k, v)]
def dropD (kvs : List (D × D)) (k : D) : List (D × D) := kvs.filter fun p => !kEq p.1 k
def mergeD (kvs more : List (D × D)) : List (D × D) := more.foldl (fun acc kv => putD acc kv.1 kv.2) kvs
theorem repD_nil {vs : List (Key × V)} : RepD K M G hs [] vs ↔ vs = [] := by unfold RepD; rfl
theorem repD_cons {k d : D} {ds : List (D × D)} {vs : List (Key × V)} : RepD K M G hs ((k, d) :: ds) vs ↔ ∃ k' v vr, vs = (k', v) :: vr ∧ keyD k' = k ∧ Rep K M G hs d v ∧ RepD K M G hs ds vr := by
  constructor
  · intro h; unfold RepD at h; exact h
  · intro h; unfold RepD; exact h
theorem RepD.length : ∀ {ds : List (D × D)} {vs : List (Key × V)}, RepD K M G hs ds vs → ds.length = vs.length
  | [], vs, h => by rw [repD_nil] at h; subst h; rfl
  | (k, d) :: ds, vs, h => by
    rw [repD_cons] at h
    obtain ⟨k', v, vr, rfl, _, _, h3⟩ := h
    simp [RepD.length h3]
/-- what two sides hold at a key -/
def ORep (K : PySem.W.Frag) (M : Mp) (G : Hp) (hs : List Addr) : Option D → Option V → Prop
  | some d, some v => Rep K M G hs d v
  | none, none => True
  | _, _ => False
theorem RepD.val (k : Key) : ∀ {ds : List (D × D)} {vs : List (Key × V)}, RepD K M G hs ds vs → ORep K M G hs (valD ds (keyD k)) (valV vs k)
  | [], vs, h => by rw [repD_nil] at h; subst h; trivial
  | (k1, d) :: ds, vs, h => by
    rw [repD_cons] at h
    obtain ⟨k', v, vr, rfl, rfl, h2, h3⟩ := h
    have ih := RepD.val k h3
    unfold valD valV at *
    rw [List.find?_cons, List.find?_cons]
    simp only [kEq_keyD]
    by_cases e : k' = k
    · simp only [e, decide_true]
      exact h2
    · simp only [e, decide_false]
      exact ih
theorem RepD.any (k : Key) : ∀ {ds : List (D × D)} {vs : List (Key × V)}, RepD K M G hs ds vs → (ds.any fun p => kEq p.1 (keyD k)) = (vs.any fun p => decide (p.1 = k))
  | [], vs, h => by rw [repD_nil] at h; subst h; rfl
  | (k1, d) :: ds, vs, h => by
    rw [repD_cons] at h
    obtain ⟨k', v, vr, rfl, rfl, h2, h3⟩ := h
    rw [List.any_cons, List.any_cons, RepD.any k h3]
    simp only [kEq_keyD]
theorem RepD.append : ∀ {ds es : List (D × D)} {vs ws : List (Key × V)}, RepD K M G hs ds vs → RepD K M G hs es ws → RepD K M G hs (ds ++ es) (vs ++ ws)
  | [], _, vs, _, h, g => by rw [repD_nil] at h; subst h; exact g
  | (k, d) :: ds, _, vs, _, h, g => by
    rw [repD_cons] at h
    obtain ⟨k', v, vr, rfl, h1, h2, h3⟩ := h
    rw [List.cons_append, List.cons_append, repD_cons]
    exact ⟨k', v, _, rfl, h1, h2, RepD.append h3 g⟩
theorem RepD.over {x : D} {y : V} (k : Key) (hx : Rep K M G hs x y) : ∀ {ds : List (D × D)} {vs : List (Key × V)}, RepD K M G hs ds vs → RepD K M G hs (ds.map fun p => if kEq p.1 (keyD k) = true then (p.1, x) else p) (vs.map fun p => if p.1 = k then (p.1, y) else p)
  | [], vs, h => by rw [repD_nil] at h; subst h; exact repD_nil.mpr rfl
  | (k1, d) :: ds, vs, h => by
    rw [repD_cons] at h
    obtain ⟨k', v, vr, rfl, rfl, h2, h3⟩ := h
    have ih := RepD.over k hx h3
    rw [List.map_cons, List.map_cons]
    simp only [kEq_keyD]
    by_cases e : k' = k
    · simp only [e, decide_true, if_true]
      exact repD_cons.mpr ⟨k, y, _, rfl, rfl, hx, by simpa [kEq_keyD] using ih⟩
    · simp only [e, decide_false, if_false]
      rw [if_neg (by simp)]
      exact repD_cons.mpr ⟨k', v, _, rfl, rfl, h2, ih⟩
theorem RepD.put {ds : List (D × D)} {vs : List (Key × V)} {x : D} {y : V} (k : Key) (h : RepD K M G hs ds vs) (hx : Rep K M G hs x y) : RepD K M G hs (putD ds (keyD k) x) (L2.putK vs k y) := by
  unfold putD L2.putK
  rw [h.any k]
  split
  · exact RepD.over k hx h
  · exact h.append (repD_cons.mpr ⟨k, y, [], rfl, rfl, hx, repD_nil.mpr rfl⟩)
theorem RepD.drop (k : Key) : ∀ {ds : List (D × D)} {vs : List (Key × V)}, RepD K M G hs ds vs → RepD K M G hs (dropD ds (keyD k)) (dropK vs k)
  | [], vs, h => by rw [repD_nil] at h; subst h; exact repD_nil.mpr rfl
  | (k1, d) :: ds, vs, h => by
    rw [repD_cons] at h
    obtain ⟨k', v, vr, rfl, rfl, h2, h3⟩ := h
    have ih := RepD.drop k h3
    unfold dropD dropK at *
    rw [List.filter_cons, List.filter_cons]
    simp only [kEq_keyD]
    by_cases e : k' = k
    · simpa [e] using ih
    · simp only [e, decide_false, Bool.not_false, if_true, ne_eq, not_false_iff, decide_true]
      exact repD_cons.mpr ⟨k', v, _, rfl, rfl, h2, ih⟩
theorem RepD.merge : ∀ {more ds : List (D × D)} {mv vs : List (Key × V)}, RepD K M G hs ds vs → RepD K M G hs more mv → RepD K M G hs (mergeD ds more) (mergeK vs mv)
  | [], _, mv, _, h, g => by rw [repD_nil] at g; subst g; exact h
  | (k, d) :: more, _, mv, _, h, g => by
    rw [repD_cons] at g
    obtain ⟨k', v, vr, rfl, rfl, h2, h3⟩ := g
    unfold mergeD mergeK
    rw [List.foldl_cons, List.foldl_cons]
    exact RepD.merge (h.put k' h2) h3
theorem RepD.get : ∀ {ds : List (D × D)} {vs : List (Key × V)} {i : Nat} {k d : D}, RepD K M G hs ds vs → ds[i]? = some (k, d) → ∃ k' v, vs[i]? = some (k', v) ∧ keyD k' = k ∧ Rep K M G hs d v
  | [], _, _, _, _, _, e => by simp at e
  | (k1, x) :: ds, vs, 0, k, d, h, e => by
    rw [repD_cons] at h
    obtain ⟨k', v, vr, rfl, h1, h2, h3⟩ := h
    simp at e
    obtain ⟨rfl, rfl⟩ := e
    exact ⟨k', v, rfl, h1, h2⟩
  | (k1, x) :: ds, vs, i + 1, k, d, h, e => by
    rw [repD_cons] at h
    obtain ⟨k', v, vr, rfl, h1, h2, h3⟩ := h
    obtain ⟨w, u, h4, h5, h6⟩ := RepD.get (i := i) h3 (by simpa using e)
    exact ⟨w, u, by simpa using h4, h5, h6⟩
theorem rep_keyD {k : Key} {v : V} : Rep K M G hs (keyD k) v ↔ v = kV k := by
  cases k
  · exact rep_int
  · exact rep_str
theorem RV.key {d : D} {k : Key} {v : V} (h : RV K M G hs H d v) (e : toK d = some k) : v = kV k := by
  have := toK_some e
  subst this
  rcases h with h | ⟨a, _, h⟩
  · exact rep_keyD.mp h
  · cases k <;> exact h.elim
/-- a dict that is read -/
theorem RV.dic {kvs : List (D × D)} {v : V} (J : Sim K M G hs s H) (h : RV K M G hs H (.dic kvs) v) : ∃ a l, v = .ref a ∧ Rd H a (.dK l) ∧ RepD K M G hs kvs l := by
  rcases h with h | ⟨a, rfl, l, h1, h2⟩
  · obtain ⟨a, o, l, rfl, h1, h2⟩ := rep_dic.mp h
    exact ⟨a, l, rfl, .inr ⟨o, J.sub _ _ h1⟩, h2⟩
  · exact ⟨a, l, rfl, .inl h1, h2⟩
theorem RV.dget {kvs : List (D × D)} {v y : V} {d : D} {k : Key} (J : Sim K M G hs s H) (h : RV K M G hs H (.dic kvs) v) (hy : RV K M G hs H d y) (e : toK d = some k) : ∃ a o, v = .ref a ∧ IsD H a ∧ DGet H a y o ∧ ORep K M G hs (valD kvs d) o := by
  obtain ⟨a, l, rfl, h1, h2⟩ := h.dic J
  refine ⟨a, valV l k, rfl, .inl ⟨l, h1⟩, .inl ⟨l, k, h1, hy.key e, rfl⟩, ?_⟩
  have := h2.val k
  rwa [toK_some e] at this
theorem ORep.some {x : D} {o : Option V} (h : ORep K M G hs (Option.some x) o) : ∃ v, o = Option.some v ∧ Rep K M G hs x v := by
  cases o with
  | none => exact h.elim
  | some v => exact ⟨v, rfl, h⟩
theorem ORep.none {o : Option V} (h : ORep K M G hs Option.none o) : o = Option.none := by
  cases o with
  | none => rfl
  | some v => exact h.elim
theorem ORep.isSome {x : Option D} {o : Option V} (h : ORep K M G hs x o) : o.isSome = x.isSome := by
  cases x with
  | none => rw [h.none]; rfl
  | some d => obtain ⟨v, rfl, _⟩ := h.some; rfl
variable {a b c o e : Expr} {fa fb fc : Env → DS → R D} {pos apos cpos : Pos}
def isKey (d : D) : Bool := (toK d).isSome
theorem isKey_some {d : D} (h : isKey d = true) : ∃ k, toK d = some k := Option.isSome_iff_exists.mp h
def opDix : D → D → Option D
  | .dic kvs, k => if isKey k = true then valD kvs k else none
  | _, _ => none
theorem de_dix (hu : X.A.units + 1 < cLine) (ha : DB M X W a fa) (hb : DB M X W b fb) (hs : NoSl b := by intro _ _; rfl) : DE M X W (.Subscript a b pos) (bopD opDix fa fb) := by
  obtain ⟨ta, pa, ha⟩ := ha.ex
  obtain ⟨tb, pb, hb⟩ := hb.ex
  refine ⟨_, pe_dget hu pa pb hs, fun A σ H G hs own η s Q I hp => ?_⟩
  refine bin_run (op := getItem) (r := fun x y H Q => ∃ a v, x = .ref a ∧ DGet H a y (some v) ∧ Q v H) ?_ ha hb I hp
  intro G hs s H x y z v u Q J hx hy e k
  unfold opDix at e
  split at e
  · split at e
    · rename_i kvs hk
      obtain ⟨kk, ek⟩ := isKey_some hk
      obtain ⟨a, o, rfl, _, h2, h3⟩ := hx.dget J hy ek
      rw [e] at h3
      obtain ⟨w, rfl, hw⟩ := h3.some
      exact ⟨a, w, rfl, h2, k G H (Stp.refl _ _ _ _) J w hw⟩
    · cases e
  · cases e
def get1O : D → D → Option D
  | .dic kvs, k => if isKey k = true then some ((valD kvs k).getD .non) else none
  | _, _ => none
def getD1 (fo fk : Env → DS → R D) : Env → DS → R D := fun η s => (fo η s).bind fun x s1 => if isDic (deref s1 x) = true then (fk η s1).bind fun k s2 => R.ofO (get1O (deref s2 x) (deref s2 k)) s2 else .bad
def get2O : D → D → D → Option D
  | .dic kvs, k, x => if isKey k = true then some ((valD kvs k).getD x) else none
  | _, _, _ => none
def getD2 (fo fk fx : Env → DS → R D) : Env → DS → R D := fun η s => (fo η s).bind fun x s1 => if isDic (deref s1 x) = true then (fk η s1).bind fun k s2 => (fx η s2).bind fun y s3 => R.ofO (get2O (deref s3 x) (deref s3 k) y) s3 else .bad
end
end DL
set_option Elab.async false
set_option linter.all false
set_option maxRecDepth 100000
set_option maxHeartbeats 2000000
namespace DL
open PySem PySem.Spec PyProof.Rows L2
section
variable {M : Mp} {X : Cx} {W : WX} {K : PySem.W.Frag} {a b e : Expr} {es : List Expr} {fa fb : Env → DS → R D} {g : Env → DS → R (List D)} {pos apos cpos p : Pos}
def opDin : D → D → Option D
  | k, .dic kvs => if isKey k = true then some (.bl (valD kvs k).isSome) else none
  | _, _ => none
def opDnin : D → D → Option D
  | k, .dic kvs => if isKey k = true then some (.bl (!(valD kvs k).isSome)) else none
  | _, _ => none
theorem Rep.key {G : Hp} {hs : List Addr} {d : D} {k : Key} {v : V} (h : Rep K M G hs d v) (e : toK d = some k) : v = kV k := by
  have := toK_some e
  subst this
  exact rep_keyD.mp h
def setDi : D → D → D → Option D
  | k, x, .dic kvs => if isKey k = true ∧ kvs.length < 16777216 then some (.dic (putD kvs k x)) else none
  | _, _, _ => none
def getDi : D → D → Option D
  | k, .dic kvs => if isKey k = true then valD kvs k else none
  | _, _ => none
def dnewD : Env → DS → R D := fun _ s => .ok (.dic []) s
def pairsD : List D → Option (List (D × D))
  | [] => some []
  | .tup [k, v] :: r => if isKey k = true then (pairsD r).map ((k, v) :: ·) else none
  | _ => none
def dictO : List D → Option D
  | [.lst l] => (pairsD l).map fun kvs => .dic (mergeD [] kvs)
  | [.dic kvs] => some (.dic kvs)
  | _ => none
structure DPP (M : Mp) (X : Cx) (W : WX) (pos : Pos) (ks : List (Option Expr)) (vs : List Expr) (f : Env → DS → R (List (D × D))) : Prop where
  ex : ∃ trs, PPs X pos ks vs trs ∧ ∀ (A : Anc) (σ : L2.St) (H G : Hp) (hs : List Addr) (own : Nat → Addr) (η : Env) (s : DS) (Q : List (V × V) → Hp → Prop), Sm X.K M A σ H G hs own η s →
    RPost X.K M σ W G hs H (f η s) (fun kvs G' hs' _ H' => ∀ kl, RepD X.K M G' hs' kvs kl → Q (kl.map fun kv => (kV kv.1, kv.2)) H') → tPairs trs σ H Q
def nilP : Env → DS → R (List (D × D)) := fun _ s => .ok [] s
def consP (fk fv : Env → DS → R D) (g : Env → DS → R (List (D × D))) : Env → DS → R (List (D × D)) := fun η s => (fk η s).bind fun k s1 => if isKey k = true then (fv η s1).bind fun v s2 => (g η s2).bind fun r s3 => .ok ((k, v) :: r) s3 else .bad
theorem dp_nil : DPP M X W pos [] [] nilP := ⟨_, pps_nil, fun A σ H G hs own η s Q I r => r G hs H (Stp.refl _ _ _ _) I.sim [] (repD_nil.mpr rfl)⟩
theorem dp_cons {ks : List (Option Expr)} {vs : List Expr} {gg : Env → DS → R (List (D × D))} (ha : DE M X W a fa) (hb : DE M X W b fb) (hr : DPP M X W pos ks vs gg) : DPP M X W pos (some a :: ks) (b :: vs) (consP fa fb gg) := by
  obtain ⟨ta, pa, ha⟩ := ha.ex
  obtain ⟨tb, pb, hb⟩ := hb.ex
  obtain ⟨tr, pr, hr⟩ := hr.ex
  refine ⟨_, pps_cons pa pb pr, fun A σ H G hs own η s Q I hp => ?_⟩
  refine ha A σ H G hs own η s _ I (hp.bind.mono fun k G1 hs1 s1 H1 S1 J1 h1 v hv => ?_)
  split at h1
  · rename_i hk
    refine hb A σ H1 G1 hs1 own η s1 _ (I.step S1 J1) (h1.bind.mono fun x G2 hs2 s2 H2 S2 J2 h2 u hu => ?_)
    refine hr A σ H2 G2 hs2 own η s2 _ ((I.step S1 J1).step S2 J2) (h2.bind.mono fun kvs G3 hs3 s3 H3 S3 J3 h3 kl hkl => ?_)
    obtain ⟨kk, ek⟩ := isKey_some hk
    have := hv.key ek
    subst this
    exact h3 G3 hs3 H3 (Stp.refl _ _ _ _) J3 ((kk, u) :: kl) (repD_cons.mpr ⟨kk, u, kl, rfl, toK_some ek, hu.mono S3.gg S3.hp, hkl⟩)
  · exact h1.elim
def dispD (g : Env → DS → R (List (D × D))) : Env → DS → R D := fun η s => (g η s).bind fun kvs s1 => if kvs.length ≤ 15 then .ok (.dic (mergeD [] kvs)) s1 else .bad
theorem df_disp {ks : List (Option Expr)} {vs : List Expr} {gg : Env → DS → R (List (D × D))} (h : DPP M X W pos ks vs gg) (hall : ks.all (·.isSome) = true := by rfl) (hl : ks.length = vs.length := by rfl) (h0 : ks ≠ [] := by intro z; cases z) (h15 : ks.length ≤ 15 := by decide) : DF M X W (.Dict ks vs pos) (dispD gg) := by
  obtain ⟨trs, p, h⟩ := h.ex
  refine ⟨_, pe_disp p hall hl h0 h15, fun A σ H G hs own η s Q I hp q hq => ?_⟩
  have k : ∀ a u, H a = some u → upd H q (.dK []) a = some u := fun a u e => by rw [upd_ne (ne_of_none e hq)]; exact e
  obtain ⟨g1, g2, g3⟩ := I.sim.free hq
  refine h A σ _ G hs own η s _ (I.step (Stp.extH k) (I.sim.extH k)) ?_
  unfold dispD at hp
  cases eg : gg η s with
  | ok kvs s1 =>
    rw [eg] at hp
    have hp2 : RPost X.K M σ W G hs H (if kvs.length ≤ 15 then R.ok (D.dic (mergeD [] kvs)) s1 else .bad) (fun d G' hs' _ H' => ∀ p, Nt H p → Fr1 X.K M G' hs' H' d p → Q (.ref p) H') := hp
    intro G1 hs1 H1 S1 J1 kl hkl
    split at hp2
    · rename_i hn
      have e1 : H1 q = some (.dK []) := S1.kp q _ upd_same g2 (fun ps z => by cases z)
      obtain ⟨a1, a2⟩ := S1.away upd_same g2 g1 (fun ps z => by cases z)
      refine ⟨e1, kl, rfl, by rw [← hkl.length]; exact hn, ?_⟩
      have S2 : Stp M G hs H G1 hs1 H1 := (Stp.extH k).trans S1
      have J3 := J1.poke (o := .dK (mergeK [] kl)) e1 (fun f z => by cases f <;> cases z) a2 a1 g3
      exact hp2 G1 hs1 _ (S2.poke (nt_none hq)) J3 q (nt_none hq) ⟨⟨_, upd_same, (repD_nil.mpr rfl).merge hkl⟩, a1, a2, g3⟩
    · exact hp2.elim
  | ex c p s1 =>
    rw [eg] at hp
    exact RPost.step (r := (R.ex c p s1 : R (List (D × D)))) (Stp.extH k) hp
  | bad => rw [eg] at hp; exact hp
end
end DL
set_option Elab.async false
set_option linter.all false
set_option maxRecDepth 100000
set_option maxHeartbeats 2000000
namespace DL
open PySem PySem.Spec PyProof.Rows L2
def sortD (l : List D) : List D := l.mergeSort fun a b => !ltD b a
def tupsOk (l : List D) : Bool := l.all (fun d => match d with | .tup (_ :: _) => true | _ => false) || l.all (fun d => match d with | .tup _ => false | _ => true)
def sortOk (l : List D) : Bool := likeAll l && decide (l.length ≤ 16777216) && tupsOk l
theorem sortable_of {l : List D} (h : likeAll l = true) (t : tupsOk l = true) : PySem.W.Sortable (l.map toPD) := by
  unfold tupsOk at t
  obtain ⟨ok, dp, hal⟩ := likeAll_of h
  rcases (Bool.or_eq_true _ _).mp t with t | t
  · refine .inl fun d hd => ?_
    obtain ⟨x, hx, rfl⟩ := List.mem_map.mp hd
    have := List.all_eq_true.mp t x hx
    split at this
    · rename_i y r
      rw [toPD, toPDL]
      exact ⟨_, _, rfl⟩
    · cases this
  · refine .inr fun d hd => ?_
    obtain ⟨x, hx, rfl⟩ := List.mem_map.mp hd
    have h1 := List.all_eq_true.mp t x hx
    have h2 := dOkL_mem ok hx
    have h3 : x ≠ .non := by
      unfold likeAll at h
      simp only [Bool.and_eq_true, List.all_eq_true] at h
      have := h.2 x hx
      intro z
      subst z
      cases this
    cases x <;> simp_all [toPD, dOk]
section
variable {M : Mp} {X : Cx} {W : WX} {K : PySem.W.Frag}
def Rz (u : Value) (b : V × D) : Prop := RelV b.1 u
def encZ (b : V × D) : PyData := toPD b.2
theorem each_zip {G : Hp} {hs : List Addr} {h : Heap} : ∀ {l : List D} {ws : List V} {its : List Value} {as : List Addr}, RepL K M G hs l ws → Vals ws its → ReadsAll h its (toPDL l) as → PySem.W.EachIs Rz its (ws.zip l) ∧ PySem.W.EachIs (fun v b => ∃ as, Reads h v (encZ b) as) its (ws.zip l)
  | [], ws, its, as, h1, h2, h3 => by
    rw [repL_nil] at h1
    subst h1
    cases h2
    exact ⟨.nil, .nil⟩
  | d :: l, ws, its, as, h1, h2, h3 => by
    rw [repL_cons] at h1
    obtain ⟨w, wr, rfl, q1, q2⟩ := h1
    cases h2 with
    | cons r t =>
      rw [toPDL] at h3
      cases h3 with
      | cons s1 s2 =>
        obtain ⟨a1, a2⟩ := each_zip q2 t s2
        exact ⟨.cons r a1, .cons ⟨_, s1⟩ a2⟩
theorem zip_facts {G : Hp} {hs : List Addr} : ∀ {l : List D} {ws : List V}, RepL K M G hs l ws → (ws.zip l).map (·.2) = l ∧ ∀ b ∈ ws.zip l, Rep K M G hs b.2 b.1
  | [], ws, h => by
    rw [repL_nil] at h
    subst h
    exact ⟨rfl, fun b hb => nomatch hb⟩
  | d :: l, ws, h => by
    rw [repL_cons] at h
    obtain ⟨w, wr, rfl, q1, q2⟩ := h
    obtain ⟨a1, a2⟩ := zip_facts q2
    refine ⟨by rw [List.zip_cons_cons, List.map_cons, a1], fun b hb => ?_⟩
    rcases List.mem_cons.mp hb with rfl | hb
    · exact q1
    · exact a2 b hb
theorem repL_pairs {G : Hp} {hs : List Addr} : ∀ {bs : List (V × D)}, (∀ b ∈ bs, Rep K M G hs b.2 b.1) → RepL K M G hs (bs.map (·.2)) (bs.map (·.1))
  | [], _ => repL_nil.mpr rfl
  | b :: bs, h => repL_cons.mpr ⟨b.1, _, rfl, h b List.mem_cons_self, repL_pairs fun c hc => h c (List.mem_cons_of_mem _ hc)⟩
theorem vals_each : ∀ {bs : List (V × D)} {out : List Value}, PySem.W.EachIs Rz out bs → Vals (bs.map (·.1)) out
  | [], _, .nil => Paired.nil
  | _ :: _, _, .cons h t => Paired.cons h (vals_each t)
theorem sort_map (bs : List (V × D)) : (bs.mergeSort (PySem.W.dataLe false encZ)).map (·.2) = sortD (bs.map (·.2)) := by
  unfold sortD
  refine List.map_mergeSort fun a _ b _ => ?_
  rw [PySem.W.dataLe_eq]
  rfl
theorem repL_keys {G : Hp} {hs : List Addr} : ∀ ks : List Key, RepL K M G hs (ks.map keyD) (ks.map kV)
  | [] => repL_nil.mpr rfl
  | k :: ks => repL_cons.mpr ⟨kV k, _, rfl, rep_keyD.mpr rfl, repL_keys ks⟩
def sortedO : List D → Option D
  | [.lst l] => if sortOk l = true then some (.lst (sortD l)) else none
  | [.dic kvs] => if sortOk (kvs.map (·.1)) = true then some (.lst (sortD (kvs.map (·.1)))) else none
  | _ => none
end
end DL
set_option Elab.async false
set_option linter.all false
set_option maxRecDepth 100000
set_option maxHeartbeats 2000000
namespace DL
open PySem PySem.Spec PyProof.Rows L2
section
variable {M : Mp} {X : Cx} {W : WX} {K : PySem.W.Frag} {G H : Hp} {hs : List Addr} {s : DS} {tg e : Expr} {f : Env → DS → R D} {pos apos cpos p : Pos}
def itmD (q : D × D) : D := .tup [q.1, q.2]
def dicK : D → Option (List D)
  | .dic kvs => some (kvs.map (·.1))
  | _ => none
def dicV : D → Option (List D)
  | .dic kvs => some (kvs.map (·.2))
  | _ => none
def dicI : D → Option (List D)
  | .dic kvs => some (kvs.map itmD)
  | _ => none
def lenDO : List D → Option D
  | [.dic kvs] => some (.int kvs.length)
  | _ => none
def listKO : List D → Option D
  | [.dic kvs] => some (.lst (kvs.map (·.1)))
  | _ => none
end
end DL
set_option Elab.async false
set_option linter.all false
set_option maxRecDepth 100000
set_option maxHeartbeats 4000000
namespace DL
open PySem PySem.Spec PyProof.Rows L2
end DL
set_option Elab.async false
set_option linter.all false
set_option maxRecDepth 100000
set_option maxHeartbeats 4000000
namespace DL
open PySem PySem.Spec PyProof.Rows L2
section
variable {M : Mp} {X : Cx} {W : WX} {e : Expr} {te : TE} {f : Env → DS → R D} {pos apos cpos p : Pos}
def tupIO : D → Option D
  | .dic kvs => some (.tup (kvs.map itmD))
  | _ => none
def dicIO : D → Option D
  | .dic kvs => some (.dic (mergeD [] kvs))
  | _ => none
end
end DL
set_option Elab.async false
set_option linter.all false
set_option maxRecDepth 100000
set_option maxHeartbeats 4000000
namespace DL
open PySem PySem.Spec PyProof.Rows L2
/-- its names: the parameter, captured ones, globals -/
structure LamP (sc scope : Scope) (a : Str) : Prop where
  kind : scope.kind = .function
  co : scope.isCoroutine = false
  gen : scope.isGenerator = false
  own : ∀ y ∈ scope.names, y.2 ≠ .cell ∧ (y.2 = .local → y.1 = a)
  par : scope.names.lookup a = some .local
  free : ∀ y ∈ scope.names, y.2 = .free → sc.names.lookup y.1 = some .cell ∨ sc.names.lookup y.1 = some .free
section
variable {X : Cx} {pins : List (Addr × Obj)} {σ : L2.St} {H : Hp} {s : Shared}
theorem LamP.has {scope : Scope} {a : Str} (L : LamP X.env.scope scope a) (ok : X.Ok) : ∀ y ∈ scope.names, y.2 = .free → ∃ c, X.env.cells.lookup y.1 = some c := fun y hy e => by
  rcases L.free y hy e with k | k
  · exact ok.has _ (.inl k)
  · exact ok.has _ (.inr k)
end
end DL
set_option Elab.async false
set_option linter.all false
set_option maxRecDepth 100000
set_option maxHeartbeats 4000000
namespace DL
open PySem PySem.Spec PyProof.Rows L2
end DL
set_option Elab.async false
set_option linter.all false
set_option maxRecDepth 100000
set_option maxHeartbeats 4000000
namespace DL
open PySem PySem.Spec PyProof.Rows L2
end DL
set_option Elab.async false
set_option linter.all false
set_option maxRecDepth 100000
set_option maxHeartbeats 4000000
namespace DL
open PySem PySem.Spec PyProof.Rows L2
def sortBy (ds ks : List D) : List D := ((ds.zip ks).mergeSort fun a b => !ltD b.2 a.2).map (·.1)
def kOk (ks : List D) : Bool := likeAll ks && tupsOk ks
def sortK (o : D → Option (List D)) (i : Nat) (fb fl : Env → DS → R D) : Env → DS → R D := fun η s => (fl η s).bind fun x s1 => (R.ofO (o (deref s1 x)) s1).bind fun ds s1 => (lcF (gN i) yesT fb η ds s1).bind fun ks s2 => if kOk ks = true then .ok (.lst (sortBy ds ks)) s2 else .bad
end DL
set_option Elab.async false
set_option linter.all false
set_option maxRecDepth 100000
set_option maxHeartbeats 2000000
namespace DL
open PySem PySem.Spec PyProof.Rows L2
def eqDicB (a b : List (D × D)) : Bool := (a.length == b.length) && a.all fun p => match valD b p.1 with
  | some y => eqB p.2 y
  | none => false
def valsOk (a : List (D × D)) : Bool := a.all fun p => dOk p.2 && decide (dDep p.2 ≤ 60)
def opNeD : D → D → Option D
  | .dic a, .dic b => if valsOk a = true ∧ valsOk b = true then some (.bl (!eqDicB a b)) else none
  | _, _ => none
section
variable {M : Mp} {X : Cx} {W : WX}
theorem u1 {A : Around} (h : A.units + 64 < cLine) : A.units + 1 < cLine := by omega
end
end DL
set_option Elab.async false
set_option linter.all false
set_option maxRecDepth 100000
set_option maxHeartbeats 2000000
namespace DL
open PySem PySem.Spec PyProof.Rows L2
def rg3L (a c : Int) (n : Nat) : List D := (List.range n).map fun m : Nat => D.int (a + (m : Int) * c)
section
variable {M : Mp} {X : Cx} {W : WX} {K : PySem.W.Frag} {a b c : Expr} {ta : TA} {g : Env → DS → R (List D)} {p p2 pos pos2 : Pos}
def rgaD (o : List D → Option D) (g : Env → DS → R (List D)) : Env → DS → R D := fun η s => (g η s).bind fun ds s1 => R.ofO (o ds) s1
variable {o e : Expr} {to : TE} {t : TA} {apos cpos : Pos} {fo fe f : Env → DS → R D}
def isTup0 : D → Bool | .tup0 _ => true | _ => false
def ix0D (o : D → List D → Option D) (fo : Env → DS → R D) (fa : Env → DS → R (List D)) : Env → DS → R D := fun η s => (fo η s).bind fun x s1 => if isTup0 x = true then (fa η s1).bind fun ds s2 => R.ofO (o x ds) s2 else .bad
def un0 : D → D | .tup0 l => .tup l | d => d
def untD (f : Env → DS → R D) : Env → DS → R D := fun η s => (f η s).bind fun d s1 => .ok (un0 d) s1
def tup0O : List D → Option D
  | [.lst l] => some (.tup0 l)
  | _ => none
end
end DL
set_option Elab.async false
set_option linter.all false
set_option maxRecDepth 100000
set_option maxHeartbeats 2000000
namespace DL
open PySem PySem.Spec PyProof.Rows L2
section
variable {M : Mp} {X : Cx}
def minTO : List D → Option D
  | [.tup (d :: ds)] => if likeAll (d :: ds) = true then some (minF d ds) else none
  | _ => none
def maxTO : List D → Option D
  | [.tup (d :: ds)] => if likeAll (d :: ds) = true then some (maxF d ds) else none
  | _ => none
def isN : D → Bool | .non => true | _ => false
def opIs : D → D → Option D
  | x, .non => some (.bl (isN x))
  | _, _ => none
def opIsNot : D → D → Option D
  | x, .non => some (.bl (!isN x))
  | _, _ => none
end
end DL
set_option Elab.async false
set_option linter.all false
set_option maxRecDepth 100000
set_option maxHeartbeats 2000000
namespace DL
open PySem PySem.Spec PyProof.Rows L2
open Sem (wp)
open AutoSeq1 (wpAny_loadPart')
section
variable {M : Mp} {X : Cx} {W : WX} {K : PySem.W.Frag} {e : Expr} {p pos tpos : Pos} {elts : List Expr} {kk : Nat} {g : Env → DS → R (List D)}
def enumTO : List D → Option (List D)
  | [.tup l] => some (enumL 0 l)
  | _ => none
end
end DL
set_option Elab.async false
set_option linter.all false
set_option maxRecDepth 100000
set_option maxHeartbeats 2000000
namespace DL
open PySem PySem.Spec PyProof.Rows L2
section
variable {η : DL.Env} {s : DS} {f fa fb fc fl fo fk fx : DL.Env → DS → R D} {g : DL.Env → DS → F} {ga : DL.Env → DS → R (List D)} {kvs : List (D × D)} {k x y d : D} {l : List D} {i n : Nat} {a : Int} {z : Str}
theorem deref_tup0 : deref s (.tup0 l) = .tup0 l := rfl
def calmDK (d : D) (s : DS) : R D := if isDic d = true then .ok d s else .bad
theorem calmDD_eq : calmDD f η s = (f η s).bnd calmDK := rfl
theorem calmDK_d : calmDK (.dic kvs) s = .ok (.dic kvs) s := rfl
theorem dnewD_eq : dnewD η s = .ok (.dic []) s := rfl
def frzDK (g : DL.Env → DS → F) (η : DL.Env) (s : DS) (i : Nat) : Option Sl → F
  | some (.o (.dic kvs)) => g (η.set i (.v (.dic kvs))) s
  | _ => .bad
theorem frzDB_eq : frzDB i g η s = frzDK g η s i η[i]? := by
  unfold frzDB
  generalize η[i]? = o
  cases o with
  | none => rfl
  | some x => cases x with
    | o d => cases d <;> rfl
    | _ => rfl
theorem frzDK_d : frzDK g η s i (some (.o (.dic kvs))) = g (η.set i (.v (.dic kvs))) s := rfl
theorem opDix_i : opDix (.dic kvs) (.int a) = valD kvs (.int a) := rfl
theorem opDix_s : opDix (.dic kvs) (.str z) = valD kvs (.str z) := rfl
theorem opDin_i : opDin (.int a) (.dic kvs) = some (.bl (valD kvs (.int a)).isSome) := rfl
theorem opDin_s : opDin (.str z) (.dic kvs) = some (.bl (valD kvs (.str z)).isSome) := rfl
theorem opDnin_i : opDnin (.int a) (.dic kvs) = some (.bl (!(valD kvs (.int a)).isSome)) := rfl
theorem opDnin_s : opDnin (.str z) (.dic kvs) = some (.bl (!(valD kvs (.str z)).isSome)) := rfl
theorem setDi_i (h : kvs.length < 16777216) : setDi (.int a) x (.dic kvs) = some (.dic (putD kvs (.int a) x)) := by
  unfold setDi; exact if_pos ⟨rfl, h⟩
theorem setDi_s (h : kvs.length < 16777216) : setDi (.str z) x (.dic kvs) = some (.dic (putD kvs (.str z) x)) := by
  unfold setDi; exact if_pos ⟨rfl, h⟩
theorem getDi_i : getDi (.int a) (.dic kvs) = valD kvs (.int a) := rfl
theorem getDi_s : getDi (.str z) (.dic kvs) = valD kvs (.str z) := rfl
theorem isDic_d : isDic (.dic kvs) = true := rfl
theorem getD1_eq : getD1 fo fk η s = (fo η s).bnd fun x s1 => if isDic (deref s1 x) = true then (fk η s1).bnd fun k s2 => R.ofO (get1O (deref s2 x) (deref s2 k)) s2 else .bad := rfl
theorem getD2_eq : getD2 fo fk fx η s = (fo η s).bnd fun x s1 => if isDic (deref s1 x) = true then (fk η s1).bnd fun k s2 => (fx η s2).bnd fun y s3 => R.ofO (get2O (deref s3 x) (deref s3 k) y) s3 else .bad := rfl
theorem get1O_i : get1O (.dic kvs) (.int a) = some ((valD kvs (.int a)).getD .non) := rfl
theorem get1O_s : get1O (.dic kvs) (.str z) = some ((valD kvs (.str z)).getD .non) := rfl
theorem get2O_i : get2O (.dic kvs) (.int a) y = some ((valD kvs (.int a)).getD y) := rfl
theorem get2O_s : get2O (.dic kvs) (.str z) y = some ((valD kvs (.str z)).getD y) := rfl
theorem lenDO_d : lenDO [.dic kvs] = some (.int (kvs.length : Nat)) := rfl
theorem listKO_d : listKO [.dic kvs] = some (.lst (kvs.map (·.1))) := rfl
theorem dicK_d : dicK (.dic kvs) = some (kvs.map (·.1)) := rfl
theorem dicV_d : dicV (.dic kvs) = some (kvs.map (·.2)) := rfl
theorem dicI_d : dicI (.dic kvs) = some (kvs.map itmD) := rfl
theorem tupIO_d : tupIO (.dic kvs) = some (.tup (kvs.map itmD)) := rfl
theorem dicIO_d : dicIO (.dic kvs) = some (.dic (mergeD [] kvs)) := rfl
theorem dictO_d : dictO [.dic kvs] = some (.dic kvs) := rfl
theorem nilP_eq : nilP η s = .ok [] s := rfl
theorem consP_eq {gp : DL.Env → DS → R (List (D × D))} : consP fk fx gp η s = (fk η s).bnd fun k s1 => if isKey k = true then (fx η s1).bnd fun v s2 => (gp η s2).bnd fun r s3 => .ok ((k, v) :: r) s3 else .bad := rfl
theorem dispD_eq {gp : DL.Env → DS → R (List (D × D))} : dispD gp η s = (gp η s).bnd fun kvs s1 => if kvs.length ≤ 15 then .ok (.dic (mergeD [] kvs)) s1 else .bad := rfl
theorem isKey_i : isKey (.int a) = true := rfl
theorem isKey_s : isKey (.str z) = true := rfl
theorem opIs_x : opIs x .non = some (.bl (isN x)) := by cases x <;> rfl
theorem opIsNot_x : opIsNot x .non = some (.bl (!isN x)) := by cases x <;> rfl
theorem isN_n : isN .non = true := rfl
theorem isN_i : isN (.int a) = false := rfl
theorem isN_s : isN (.str z) = false := rfl
theorem isN_t : isN (.tup l) = false := rfl
theorem isN_l : isN (.lst l) = false := rfl
theorem untD_eq : untD f η s = (f η s).bnd fun d s1 => .ok (un0 d) s1 := rfl
theorem un0_t : un0 (.tup0 l) = .tup l := rfl
theorem ix0D_eq {o : D → List D → Option D} : ix0D o fo ga η s = (fo η s).bnd fun x s1 => if isTup0 x = true then (ga η s1).bnd fun ds s2 => R.ofO (o x ds) s2 else .bad := rfl
theorem isTup0_t : isTup0 (.tup0 l) = true := rfl
theorem tup0O_l : tup0O [.lst l] = some (.tup0 l) := rfl
theorem rgaD_eq {o : List D → Option D} : rgaD o ga η s = (ga η s).bnd fun ds s1 => R.ofO (o ds) s1 := rfl
theorem minTO_eq : minTO [.tup (d :: l)] = minO [.lst (d :: l)] := rfl
theorem maxTO_eq : maxTO [.tup (d :: l)] = maxO [.lst (d :: l)] := rfl
theorem enumTO_t : enumTO [.tup l] = some (enumL 0 l) := rfl
theorem sortK_eq {o : D → Option (List D)} : sortK o i fb fl η s = (fl η s).bnd fun x s1 => (R.ofO (o (deref s1 x)) s1).bnd fun ds s1 => (lcF (gN i) yesT fb η ds s1).bnd fun ks s2 => if kOk ks = true then .ok (.lst (sortBy ds ks)) s2 else .bad := rfl
end
end DL
set_option Elab.async false
set_option linter.all false
set_option maxRecDepth 100000
set_option maxHeartbeats 2000000
namespace DL
open PySem PySem.Spec PyProof.Rows L2
def bopTD (o : DS → D → D → Option D) (fa fb : Env → DS → R D) : Env → DS → R D := fun η s => (fa η s).bind fun x s1 => (fb η s1).bind fun y s2 => R.ofO (o s2 x y) s2
section
variable {M : Mp} {X : Cx} {W : WX}
variable {a b : Expr} {fa fb : Env → DS → R D} {pos : Pos}
theorem bopTD_eq {o : DS → D → D → Option D} {η : DL.Env} {s : DS} : bopTD o fa fb η s = (fa η s).bnd fun x s1 => (fb η s1).bnd fun y s2 => R.ofO (o s2 x y) s2 := rfl
end
end DL
set_option Elab.async false
set_option linter.all false
set_option maxRecDepth 100000
set_option maxHeartbeats 2000000
namespace DL
open PySem PySem.Spec PyProof.Rows L2
section
variable {M : Mp} {X : Cx} {W : WX} {K : PySem.W.Frag}
/-- two clauses; both at most 4096 long -/
def lc2F (put : D → Env → Option Env) (ft : Env → DS → R Bool) (fi1 : Env → DS → R (List D)) (put1 : D → Env → Option Env) (ft1 : Env → DS → R Bool) (fe : Env → DS → R D) (vs1 : List Nat) (η0 : Env) : List D → DS → R (List D)
  | [], s => .ok [] s
  | d :: ds, s => match put d η0 with
    | none => .bad
    | some η1 => (ft η1 s).nx.bind fun b s1 => if b = true then (fi1 η1 s1).nx.bind fun ds1 s2 => if ds1.length ≤ 4096 then (lcF put1 ft1 fe (wipeE η1 vs1) ds1 s2).bind fun ys s3 => (lc2F put ft fi1 put1 ft1 fe vs1 η0 ds s3).bind fun zs s4 => .ok (ys ++ zs) s4 else .bad else lc2F put ft fi1 put1 ft1 fe vs1 η0 ds s1
def lc2D (fi : Env → DS → R (List D)) (put : D → Env → Option Env) (ft : Env → DS → R Bool) (fi1 : Env → DS → R (List D)) (put1 : D → Env → Option Env) (ft1 : Env → DS → R Bool) (fe : Env → DS → R D) (vs vs1 : List Nat) : Env → DS → R D := fun η s => (fi η s).bind fun ds s1 =>
  if ds.length ≤ 4095 then (lc2F put ft fi1 put1 ft1 fe vs1 (wipeE η vs) ds s1).bind fun ys s2 => .ok (.lst ys) s2 else .bad
/-- an object that no one tracks, younger than all that is one's own, is written -/
theorem Sm.updU {A : Anc} {σ : L2.St} {H G : Hp} {hs : List Addr} {own : Nat → Addr} {η : Env} {s : DS} {p : Addr} {o : HO} (I : Sm K M A σ H G hs own η s) (J : Sim K M G hs s (upd H p o)) (nA : Nt A.H p) (hs1 : ∀ a, a = p → ∀ u, H p = some u → ∀ ps, u ≠ .tbl ps) (ho : ∀ i d, η[i]? = some (.o d) → own i ≠ p) (hp : ∃ u, H p = some u) : Sm K M A σ (upd H p o) G hs own η s where
  sim := J
  stp := ⟨I.stp.gg, I.stp.fr, I.stp.hp, I.stp.hf, fun a u e n t => by
      by_cases z : a = p
      · obtain ⟨ps, q⟩ := nA u (by rw [← z]; exact e)
        exact absurd q (t ps)
      · rw [upd_ne z]; exact I.stp.kp a u e n t, fun a e => by
      by_cases z : a = p
      · rw [z]; exact nA
      · exact I.stp.dm a fun u q => e u (by rw [upd_ne z]; exact q)⟩
  pl := I.pl
  ow := fun i d e => by
    obtain ⟨h1, h2, h3⟩ := I.ow i d e
    exact ⟨h1, RepAt.upd h2 (ho i d e), h3⟩
  inj := I.inj
  el := I.el
  sf := I.sf
end
end DL
set_option Elab.async false
set_option linter.all false
set_option maxRecDepth 100000
set_option maxHeartbeats 2000000
namespace DL
open PySem PySem.Spec PyProof.Rows L2
section
variable {M : Mp} {X : Cx} {W : WX} {K : PySem.W.Frag}
abbrev Tg := D → Env → DS → (Env → DS → F) → F
abbrev Tgs := List D → Env → DS → (Env → DS → F) → F
def seqK (r : F) (k : Env → DS → F) : F := match r with
  | .nx η s => k η s
  | r => r
def gmSub (fp : Env → DS → R Plc) (fi : Env → DS → R D) (u : D → D → D → Option D) : Tg := fun x η s k => (fp η s).toF η fun pl s1 => (fi η s1).toF η fun i s2 => seqK (wrF pl (u i x) η s2) k
def gmN : Tgs := fun ds η s k => match ds with
  | [] => k η s
  | _ => .bad
def gmC (f : Tg) (g : Tgs) : Tgs := fun ds η s k => match ds with
  | d :: r => f d η s fun η1 s1 => g r η1 s1 k
  | [] => .bad
def gmT (n : Nat) (g : Tgs) : Tg := fun d η s k => match d with
  | .tup ds => if ds.length = n then g ds η s k else .bad
  | _ => .bad
def asgmB (f : Tg) (fe : Env → DS → R D) : Env → DS → F := fun η s => (fe η s).toF η fun d s1 => f d η s1 F.nx
end
end DL
set_option Elab.async false
set_option linter.all false
set_option maxRecDepth 100000
set_option maxHeartbeats 2000000
namespace DL
open PySem PySem.Spec PyProof.Rows L2
section
variable {M : Mp} {X : Cx} {W : WX}
def opEqN : D → D → Option D
  | .lst l, .lst [] => some (.bl l.isEmpty)
  | _, _ => none
def opNeN : D → D → Option D
  | .lst l, .lst [] => some (.bl (!l.isEmpty))
  | _, _ => none
def rEqN (K : PySem.W.Frag) (f : Bool → Bool) : R2 := fun x y H Q => ∃ a b vs, x = .ref a ∧ y = .ref b ∧ SqL K H a vs ∧ SqL K H b [] ∧ Q (.bl (f vs.isEmpty)) H
theorem op_eqN (hu : X.A.units < cLine) : OpR X (compareOp .Eq) (rEqN X.K id) := by
  intro pins s σ H x y v u Q I rx ry h
  obtain ⟨a, b, vs, rfl, rfl, h1, h2, q⟩ := h
  obtain rfl : v = Value.ref a := rx
  obtain rfl : u = Value.ref b := ry
  obtain ⟨its, r1, p1, _⟩ := I.list h1
  obtain ⟨its2, r2, p2, _⟩ := I.list h2
  have e2 : its2 = [] := List.length_eq_zero_iff.mp r2.length.symm
  subst e2
  have done : EP X pins σ Q (.bool vs.isEmpty) s := ⟨.bl vs.isEmpty, H, I, rfl, q⟩
  cases vs with
  | nil =>
    have e1 : its = [] := List.length_eq_zero_iff.mp r1.length.symm
    subst e1
    exact SeqAt.RcAt.lists (e := fun _ => true) p1.isList p2.isList rfl hu (fun j h => absurd h (by simp)) _ _ _ _ done
  | cons w vs =>
    refine SeqAt.RcAt.lists_lengths p1.isList p2.isList ?_ hu _ _ _ _ done
    have := r1.length
    simp at this ⊢
    intro z
    rw [z] at this
    simp at this
theorem op_neN (hu : X.A.units < cLine) : OpR X (compareOp .NotEq) (rEqN X.K (!·)) := by
  intro pins s σ H x y v u Q I rx ry h
  obtain ⟨a, b, vs, rfl, rfl, h1, h2, q⟩ := h
  obtain rfl : v = Value.ref a := rx
  obtain rfl : u = Value.ref b := ry
  obtain ⟨its, r1, p1, _⟩ := I.list h1
  obtain ⟨its2, r2, p2, _⟩ := I.list h2
  have e2 : its2 = [] := List.length_eq_zero_iff.mp r2.length.symm
  subst e2
  have done : EP X pins σ Q (.bool (!vs.isEmpty)) s := ⟨.bl (!vs.isEmpty), H, I, rfl, q⟩
  cases vs with
  | nil =>
    have e1 : its = [] := List.length_eq_zero_iff.mp r1.length.symm
    subst e1
    exact SeqAt.RcNeAt.lists (e := fun _ => true) p1.isList p2.isList rfl hu (fun j h => absurd h (by simp)) _ _ _ _ done
  | cons w vs =>
    refine SeqAt.RcNeAt.lists_lengths p1.isList p2.isList ?_ hu _ _ _ _ done
    have := r1.length
    simp at this ⊢
    intro z
    rw [z] at this
    simp at this
theorem isEmpty_len {α β : Type} : ∀ {l : List α} {m : List β}, l.length = m.length → m.isEmpty = l.isEmpty
  | [], [], _ => rfl
  | _ :: _, _ :: _, _ => rfl
  | [], _ :: _, h => by cases h
  | _ :: _, [], h => by cases h
theorem od_eqN (hu : X.A.units + 64 < cLine) : OpD M X (compareOp .Eq) opEqN := by
  refine ⟨_, op_eqN (by omega), fun G hs s H x y z v u Q J hx hy e k => ?_⟩
  unfold opEqN at e
  split at e
  · cases e
    obtain ⟨a, vs, rfl, h1, r1⟩ := hx.lst J
    obtain ⟨b, ws, rfl, h2, r2⟩ := hy.lst J
    cases repL_nil.mp r2
    refine ⟨a, b, vs, rfl, rfl, SqL.of h1, SqL.of h2, ?_⟩
    rw [show vs.isEmpty = _ from isEmpty_len r1.length]
    exact k G H (Stp.refl _ _ _ _) J _ (rep_bl.mpr rfl)
  · cases e
theorem od_neN (hu : X.A.units + 64 < cLine) : OpD M X (compareOp .NotEq) opNeN := by
  refine ⟨_, op_neN (by omega), fun G hs s H x y z v u Q J hx hy e k => ?_⟩
  unfold opNeN at e
  split at e
  · cases e
    obtain ⟨a, vs, rfl, h1, r1⟩ := hx.lst J
    obtain ⟨b, ws, rfl, h2, r2⟩ := hy.lst J
    cases repL_nil.mp r2
    refine ⟨a, b, vs, rfl, rfl, SqL.of h1, SqL.of h2, ?_⟩
    rw [show vs.isEmpty = _ from isEmpty_len r1.length]
    exact k G H (Stp.refl _ _ _ _) J _ (rep_bl.mpr rfl)
  · cases e
theorem opEqN_l {l : List D} : opEqN (.lst l) (.lst []) = some (.bl l.isEmpty) := rfl
theorem opNeN_l {l : List D} : opNeN (.lst l) (.lst []) = some (.bl (!l.isEmpty)) := rfl
end
end DL
set_option Elab.async false
set_option linter.all false
set_option maxRecDepth 100000
set_option maxHeartbeats 2000000
namespace DL
open PySem PySem.Spec PyProof PyProof.Rows L2
section
variable {M : Mp} {X : Cx} {W : WX}
/-- a dict or a text against a text -/
def opEqDs : D → D → Option D
  | .dic _, .str _ => some (.bl false)
  | .str x, .str y => if PyData.strOk x = true ∧ PyData.strOk y = true then some (.bl (x == y)) else none
  | _, _ => none
theorem opEq_ssX {x y : Str} (h : PyData.strOk x = true) (h2 : PyData.strOk y = true) : opEq (.str x) (.str y) = some (.bl (x == y)) := by
  rw [opEq_ok (by simpa [okN] using h) (by simpa [okN] using h2)]
  simp [eqB]
theorem opEqDs_d {kvs : List (D × D)} {z : Str} : opEqDs (.dic kvs) (.str z) = some (.bl false) := rfl
theorem opEqDs_s {x y : Str} (h : PyData.strOk x = true) (h2 : PyData.strOk y = true) : opEqDs (.str x) (.str y) = some (.bl (x == y)) := if_pos ⟨h, h2⟩
end
end DL
set_option Elab.async false
set_option linter.all false
set_option maxRecDepth 100000
set_option maxHeartbeats 2000000
namespace DL
open PySem PySem.Spec PyProof PyProof.Rows L2
def inOk (x : D) (l : List D) : Bool := dOk x && dOkL l && decide (dDep x ≤ 60)
def inX (x : D) (neg : Bool) (y : D) : Option D := match y with
  | .lst l => if inOk x l = true then some (.bl (if neg then !(l.any fun y => eqB y x) else l.any fun y => eqB y x)) else none
  | .tup l => if inOk x l = true then some (.bl (if neg then !(l.any fun y => eqB y x) else l.any fun y => eqB y x)) else none
  | _ => none
def opInX (x y : D) : Option D := match opIn x y with
  | some d => some d
  | none => inX x false y
def opNinX (x y : D) : Option D := match opNin x y with
  | some d => some d
  | none => inX x true y
/-- what is told apart, or flat -/
theorem inOk_of {x : D} {l : List D} (h : okN 9 x = true) (h2 : okNL 9 l = true) : inOk x l = true := by
  obtain ⟨a, b⟩ := okN_of h
  obtain ⟨c, d⟩ := okNL_of h2
  unfold inOk
  simp only [Bool.and_eq_true, decide_eq_true_eq]
  exact ⟨⟨a, c⟩, by omega⟩
theorem opInX_flt {x : D} {l : List D} (h : flt x l = true) : opInX x (.lst l) = some (.bl (l.any fun y => eqB y x)) ∧ opInX x (.tup l) = some (.bl (l.any fun y => eqB y x)) ∧ opNinX x (.lst l) = some (.bl (!(l.any fun y => eqB y x))) ∧ opNinX x (.tup l) = some (.bl (!(l.any fun y => eqB y x))) := by
  unfold opInX opNinX
  rw [opIn_lst h, opIn_tup h, opNin_lst h, opNin_tup h]
  exact ⟨rfl, rfl, rfl, rfl⟩
theorem opInX_all {x : D} {l : List D} (h : inOk x l = true) : opInX x (.lst l) = some (.bl (l.any fun y => eqB y x)) ∧ opInX x (.tup l) = some (.bl (l.any fun y => eqB y x)) ∧ opNinX x (.lst l) = some (.bl (!(l.any fun y => eqB y x))) ∧ opNinX x (.tup l) = some (.bl (!(l.any fun y => eqB y x))) := by
  by_cases f : flt x l = true
  · exact opInX_flt f
  · have e1 : opIn x (.lst l) = none := by unfold opIn; cases x <;> exact if_neg f
    have e2 : opIn x (.tup l) = none := by unfold opIn; cases x <;> exact if_neg f
    have e3 : opNin x (.lst l) = none := by unfold opNin; cases x <;> exact if_neg f
    have e4 : opNin x (.tup l) = none := by unfold opNin; cases x <;> exact if_neg f
    unfold opInX opNinX
    rw [e1, e2, e3, e4]
    exact ⟨if_pos h, if_pos h, if_pos h, if_pos h⟩
theorem opInX_lst {x : D} {l : List D} (h : okN 9 x = true) (h2 : okNL 9 l = true) : opInX x (.lst l) = some (.bl (l.any fun y => eqB y x)) := (opInX_all (inOk_of h h2)).1
theorem opInX_tup {x : D} {l : List D} (h : okN 9 x = true) (h2 : okNL 9 l = true) : opInX x (.tup l) = some (.bl (l.any fun y => eqB y x)) := (opInX_all (inOk_of h h2)).2.1
theorem opNinX_lst {x : D} {l : List D} (h : okN 9 x = true) (h2 : okNL 9 l = true) : opNinX x (.lst l) = some (.bl (!(l.any fun y => eqB y x))) := (opInX_all (inOk_of h h2)).2.2.1
theorem opNinX_tup {x : D} {l : List D} (h : okN 9 x = true) (h2 : okNL 9 l = true) : opNinX x (.tup l) = some (.bl (!(l.any fun y => eqB y x))) := (opInX_all (inOk_of h h2)).2.2.2
theorem opInX_lstF {x : D} {l : List D} (h : flt x l = true) : opInX x (.lst l) = some (.bl (l.any fun y => eqB y x)) := (opInX_flt h).1
theorem opInX_tupF {x : D} {l : List D} (h : flt x l = true) : opInX x (.tup l) = some (.bl (l.any fun y => eqB y x)) := (opInX_flt h).2.1
theorem opNinX_lstF {x : D} {l : List D} (h : flt x l = true) : opNinX x (.lst l) = some (.bl (!(l.any fun y => eqB y x))) := (opInX_flt h).2.2.1
theorem opNinX_tupF {x : D} {l : List D} (h : flt x l = true) : opNinX x (.tup l) = some (.bl (!(l.any fun y => eqB y x))) := (opInX_flt h).2.2.2
end DL
set_option Elab.async false
set_option linter.all false
set_option maxRecDepth 100000
set_option maxHeartbeats 2000000
namespace DL
open PySem PySem.Spec PyProof.Rows L2
section
variable {M : Mp} {X : Cx} {W : WX}
variable {e : Expr} {g : Env → DS → R (List D)} {p pos tpos : Pos} {elts : List Expr} {kk : Nat}
def enumLO : List D → Option (List D)
  | [.lst l] => some (enumL 0 l)
  | _ => none
theorem enumLO_l {l : List D} : enumLO [.lst l] = some (enumL 0 l) := rfl
end
end DL
set_option Elab.async false
set_option linter.all false
set_option maxRecDepth 100000
set_option maxHeartbeats 4000000
namespace DL
open PySem PySem.Spec PyProof.Rows L2
end DL
set_option Elab.async false
set_option linter.all false
set_option maxRecDepth 100000
set_option maxHeartbeats 2000000
namespace DL
open PySem PySem.Spec PyProof.Rows L2
def F.nox : F → F
  | .ex _ _ _ _ => .bad
  | r => r
def tryB (cs : List Nat) (fb : Env → DS → F) (hs : List (Nat × (Env → DS → F))) : Env → DS → F := fun η s => match fb η s with
  | .ex c p η1 s1 => if cs.contains c = true then (match hs.lookup c with
    | some h => (h η1 s1).nox
    | none => .ex c p η1 s1) else .bad
  | r => r
section
variable {M : Mp} {X : Cx} {W : WX}
def tryK (cs : List Nat) (hs : List (Nat × (Env → DS → F))) (r : F) : F := match r with
  | .ex c p η1 s1 => if cs.contains c = true then (match hs.lookup c with
    | some h => (h η1 s1).nox
    | none => .ex c p η1 s1) else .bad
  | r => r
theorem tryB_eq {cs : List Nat} {fb : Env → DS → F} {hs : List (Nat × (Env → DS → F))} {η : Env} {s : DS} : tryB cs fb hs η s = tryK cs hs (fb η s) := by
  unfold tryB tryK
  cases fb η s <;> rfl
theorem tryK_nx {cs : List Nat} {hs : List (Nat × (Env → DS → F))} {η : Env} {s : DS} : tryK cs hs (.nx η s) = .nx η s := rfl
theorem tryK_rt {cs : List Nat} {hs : List (Nat × (Env → DS → F))} {d : D} {s : DS} : tryK cs hs (.rt d s) = .rt d s := rfl
theorem tryK_ex {cs : List Nat} {hs : List (Nat × (Env → DS → F))} {c : Nat} {p : List D} {η : Env} {s : DS} (h : cs.contains c = true) : tryK cs hs (.ex c p η s) = match hs.lookup c with | some h => (h η s).nox | none => .ex c p η s := if_pos h
theorem nox_rt {d : D} {s : DS} : (F.rt d s).nox = .rt d s := rfl
theorem nox_nx {η : Env} {s : DS} : (F.nx η s).nox = .nx η s := rfl
theorem tryK_ex1 {cs : List Nat} {h : Env → DS → F} {c : Nat} {p : List D} {η : Env} {s : DS} (hc : cs.contains c = true) : tryK cs [(c, h)] (.ex c p η s) = (h η s).nox := by
  rw [tryK_ex hc]
  simp [List.lookup]
theorem tryK_ex0 {cs : List Nat} {h : Env → DS → F} {c c' : Nat} {p : List D} {η : Env} {s : DS} (hc : cs.contains c = true) (hn : (c == c') = false) : tryK cs [(c', h)] (.ex c p η s) = .ex c p η s := by
  rw [tryK_ex hc]
  simp [List.lookup, hn]
end
end DL
set_option Elab.async false
set_option linter.all false
set_option maxRecDepth 100000
set_option maxHeartbeats 2000000
namespace DL
open PySem PySem.Spec PyProof.Rows L2
end DL
set_option Elab.async false
set_option linter.all false
set_option maxRecDepth 100000
set_option maxHeartbeats 2000000
namespace DL
open PySem PySem.Spec PyProof PyProof.Rows L2
def ltX (x y : D) : Option D := match x, y with
  | .tup a, .tup b => if (dOkL a && dOkL b && decide (dDep (.tup a) ≤ 60) && alikeD (.tup a) (.tup b)) = true then some (.bl (ltD (.tup a) (.tup b))) else none
  | _, _ => none
def opLtX (x y : D) : Option D := match opLt x y with
  | some d => some d
  | none => ltX x y
def opGtX (x y : D) : Option D := match opGt x y with
  | some d => some d
  | none => ltX y x
theorem opLtX_int {a b : Int} : opLtX (.int a) (.int b) = some (.bl (decide (a < b))) := rfl
theorem opGtX_int {a b : Int} : opGtX (.int a) (.int b) = some (.bl (decide (b < a))) := rfl
end DL
set_option Elab.async false
set_option linter.all false
namespace DL
open PySem PySem.Spec PyProof PyProof.Rows L2
end DL
set_option Elab.async false
set_option linter.all false
set_option maxRecDepth 100000
set_option maxHeartbeats 2000000
namespace DL
open PySem PySem.Spec PyProof.Rows L2
section
variable {M : Mp} {X : Cx} {W : WX} {K : PySem.W.Frag} {a : Expr} {ta : TA} {g : Env → DS → R (List D)} {p p2 pos pos2 : Pos}
noncomputable def lrg1O : List D → Option D
  | [.int k] => if small62 k = true ∧ k.toNat ≤ 16777216 then some (.lst (rg3L 0 1 k.toNat)) else none
  | _ => none
end
theorem lrg1_is {k : Int} (h : -4611686018427387904 ≤ k ∧ k ≤ 16777216) : lrg1O [.int k] = some (.lst (rngL 0 k.toNat)) := by
  show (if _ then _ else _) = _
  rw [if_pos]
  · unfold rg3L
    rw [rngL_map]
    simp
  · refine ⟨?_, by omega⟩
    unfold small62
    rw [Bool.and_eq_true]
    exact ⟨cl_yes (by omega), cl_yes (by omega)⟩
end DL
set_option Elab.async false
set_option linter.all false
set_option maxRecDepth 100000
set_option maxHeartbeats 2000000
namespace DL
open PySem PySem.Spec PyProof.Rows L2
end DL
set_option Elab.async false
set_option linter.all false
set_option maxRecDepth 100000
set_option maxHeartbeats 4000000
namespace DL
open PySem PySem.Spec PyProof.Rows L2
section
variable {M : Mp} {X : Cx} {W : WX} {e : Expr} {te : TE} {f : Env → DS → R D} {pos apos cpos p : Pos}
def lstIO : D → Option D
  | .dic kvs => some (.lst (kvs.map itmD))
  | _ => none
end
end DL
set_option Elab.async false
set_option linter.all false
set_option maxRecDepth 100000
set_option maxHeartbeats 2000000
namespace DL
open PySem PySem.Spec PyProof.Rows L2
section
variable {M : Mp} {X : Cx} {W : WX} {o e : Expr} {es : List Expr} {ta : TE} {t : TA} {m : Str} {pos apos : Pos} {fo : Env → DS → R D} {fa : Env → DS → R (List D)}
def tMethS (C : Addr) (m : Str) (sp : Sp) (E : L2.St → XK) (ta : TE) (t : TA) : TE := fun σ H Q => ta σ H fun x H1 => ∃ (a dx : Addr) (fs : List (Str × V)), x = .ref a ∧ H1 a = some (.ins C dx fs) ∧ fs.lookup m = none ∧ t σ H1 fun vs H2 => sp (.ref a :: vs) H2 Q (E σ)
theorem pe_methT {CX : CXT} {k : Nat} {f C : Addr} {fd : FuncData} {ps : List Str} {sp : Sp} {E : L2.St → XK} {pl : Sem Bool} (he : PE X o ta) (c : Cls X.K C) (hm : Meth X.K C m f) (F : FnOk X.prog X.w X.K X.mg X.base CX k f fd ps sp) (hr : Room k X.A) (hb : Binds X.K fd ps []) (hx : ∀ σ, PassesAt CX X σ (E σ)) (ha : PA X (e :: es) t)
    (hst : starEach (e :: es) X.env = (false, eval e X.env) :: starEach es X.env := by rfl) (hpl : (backTo pos (starEach es X.env)).any (·.1) = false := by rfl)
    (ht : eval (.Call (.Attribute o m apos) (e :: es) [] pos) X.env = (do
      let ov ← eval o X.env
      standAt apos.atName
      let (f, first) ← holding [ov] (getMethod ov m pl)
      callWith pos f first (backTo pos (starEach (e :: es) X.env)) (backToKw pos (keywordEach [] X.env))) := by rfl) :
    PE X (.Call (.Attribute o m apos) (e :: es) [] pos) (tMethS C m sp E ta t) := by
  refine ⟨fun pins s σ H Q I h => ?_⟩
  refine PySem.W.methodCall_KW (pl := pl) (thn (he.run pins s σ H _ I h) fun u s1 ⟨x, H1, I1, rx, a, dx, fs, ex, ea, l, q⟩ => ?_) ht
  subst ex
  obtain rfl : u = Value.ref a := rx
  refine getmeth_ok I1 ea c hm l ?_
  refine PySem.W.callWith_K (first := [.ref a]) (h₀ := X.base) I.ok.mod.kin hm.kp (thn (ha.run pos pins s1 σ H1 _ I1 q) fun us s2 ⟨vs, H2, I2, r, q2⟩ => ⟨I2.kIn, ?_⟩) hst hpl
  exact run_fnS (us := .ref a :: us) (vs := .ref a :: vs) F hr hb (hx σ) I2 (.cons rfl r) q2
theorem pe_methT0 {CX : CXT} {k : Nat} {f C : Addr} {fd : FuncData} {ps : List Str} {sp : Sp} {E : L2.St → XK} {pl : Sem Bool} (he : PE X o ta) (c : Cls X.K C) (hm : Meth X.K C m f) (F : FnOk X.prog X.w X.K X.mg X.base CX k f fd ps sp) (hr : Room k X.A) (hb : Binds X.K fd ps []) (hx : ∀ σ, PassesAt CX X σ (E σ))
    (ht : eval (.Call (.Attribute o m apos) [] [] pos) X.env = (do
      let ov ← eval o X.env
      standAt apos.atName
      let (f, first) ← holding [ov] (getMethod ov m pl)
      callWith pos f first (backTo pos (starEach [] X.env)) (backToKw pos (keywordEach [] X.env))) := by rfl) :
    PE X (.Call (.Attribute o m apos) [] [] pos) (tMethS C m sp E ta tNil) := by
  refine ⟨fun pins s σ H Q I h => ?_⟩
  refine PySem.W.methodCall_KW (pl := pl) (thn (he.run pins s σ H _ I h) fun u s1 ⟨x, H1, I1, rx, a, dx, fs, ex, ea, l, q⟩ => ?_) ht
  subst ex
  obtain rfl : u = Value.ref a := rx
  refine getmeth_ok I1 ea c hm l ?_
  exact PySem.W.callWith_K0 (first := [.ref a]) I1.kIn hm.kp (run_fnS (us := [.ref a]) (vs := [.ref a]) F hr hb (hx σ) I1 (.cons rfl .nil) q)
theorem de_methT {pl : Sem Bool} {k c : Nat} {f : Addr} {fd : FuncData} {ps : List Str} {n : Nat} {g : List D → DS → R D} (F : FnOk X.prog X.w X.K X.mg X.base (L2.CX X.prog X.w) k f fd ps (SpD X.K M n g)) (hb : Binds X.K fd ps []) (C : ClsOk X.K M c) (hme : Meth X.K (M.cls c) m f) (hr : Room k X.A) (tk : Takes X W) (ho : DE M X W o fo) (ha : DA M X W (e :: es) fa)
    (hn : (M.flds c).contains m = false := by rfl) (hst : starEach (e :: es) X.env = (false, eval e X.env) :: starEach es X.env := by rfl) (hpl : (backTo pos (starEach es X.env)).any (·.1) = false := by rfl)
    (ht : eval (.Call (.Attribute o m apos) (e :: es) [] pos) X.env = (do
      let ov ← eval o X.env
      standAt apos.atName
      let (f, first) ← holding [ov] (getMethod ov m pl)
      callWith pos f first (backTo pos (starEach (e :: es) X.env)) (backToKw pos (keywordEach [] X.env))) := by rfl) :
    DE M X W (.Call (.Attribute o m apos) (e :: es) [] pos) (methD c (gateD n g) fo fa) := by
  obtain ⟨t, pt, h⟩ := ho.ex
  obtain ⟨ta, pa, ka⟩ := ha.ex
  refine ⟨_, pe_methT (pl := pl) pt C.cl hme F hr hb (fun σ => passAt tk σ) pa hst hpl ht, fun A σ H G hs own η s Q I hp => ?_⟩
  refine h A σ H G hs own η s _ I (hp.bind.mono fun d G1 hs1 s1 H1 S1 J1 h1 v hv => ?_)
  split at h1
  · rename_i hc
    obtain ⟨a, dx, fs, rfl, e1, e2⟩ := isC_at J1 hn hv hc
    refine ⟨a, dx, fs, rfl, e1, e2, ?_⟩
    refine ka A σ H1 G1 hs1 own η s1 _ (I.step S1 J1) (h1.bind.mono fun ds G2 hs2 s2 H2 S2 J2 h2 vs hvs => ?_)
    exact spd_of (fun _ _ _ z => z) J2 (repL_cons.mpr ⟨_, _, rfl, hv.mono S2.gg S2.hp, hvs⟩) h2
  · exact h1.elim
theorem de_methT0 {pl : Sem Bool} {k c : Nat} {f : Addr} {fd : FuncData} {ps : List Str} {n : Nat} {g : List D → DS → R D} (F : FnOk X.prog X.w X.K X.mg X.base (L2.CX X.prog X.w) k f fd ps (SpD X.K M n g)) (hb : Binds X.K fd ps []) (C : ClsOk X.K M c) (hme : Meth X.K (M.cls c) m f) (hr : Room k X.A) (tk : Takes X W) (ho : DE M X W o fo)
    (hn : (M.flds c).contains m = false := by rfl)
    (ht : eval (.Call (.Attribute o m apos) [] [] pos) X.env = (do
      let ov ← eval o X.env
      standAt apos.atName
      let (f, first) ← holding [ov] (getMethod ov m pl)
      callWith pos f first (backTo pos (starEach [] X.env)) (backToKw pos (keywordEach [] X.env))) := by rfl) :
    DE M X W (.Call (.Attribute o m apos) [] [] pos) (methD c (gateD n g) fo nilA) := by
  obtain ⟨t, pt, h⟩ := ho.ex
  obtain ⟨ta, pa, ka⟩ := (da_nil (M := M) (X := X) (W := W)).ex
  refine ⟨_, pe_methT0 (pl := pl) pt C.cl hme F hr hb (fun σ => passAt tk σ) ht, fun A σ H G hs own η s Q I hp => ?_⟩
  refine h A σ H G hs own η s _ I (hp.bind.mono fun d G1 hs1 s1 H1 S1 J1 h1 v hv => ?_)
  split at h1
  · rename_i hc
    obtain ⟨a, dx, fs, rfl, e1, e2⟩ := isC_at J1 hn hv hc
    refine ⟨a, dx, fs, rfl, e1, e2, ?_⟩
    exact spd_of (fun _ _ _ z => z) J1 (repL_cons.mpr ⟨_, _, rfl, hv, repL_nil.mpr rfl⟩) h1
  · exact h1.elim
end
end DL
set_option Elab.async false
set_option linter.all false
set_option maxRecDepth 100000
set_option maxHeartbeats 2000000
namespace PySem.SeqAt
open AutoSeq1 (wpAny_loadPart')
open MeetsSeq MeetsSeq2 MeetsSeq3 SeqRoads2
end PySem.SeqAt
namespace DL
open PySem PySem.Spec PyProof.Rows L2
section
variable {M : Mp} {X : Cx} {W : WX}
variable {a b : Expr} {fa fb : Env → DS → R D} {pos : Pos}
/-- != of plain data, or of two dicts -/
def opNeM : D → D → Option D := fun x y => match opNe x y with
  | some r => some r
  | none => opNeD x y
theorem opNeM_d {a b : List (D × D)} : opNeM (.dic a) (.dic b) = opNeD (.dic a) (.dic b) := rfl
theorem opNeM_s {z : Str} (h : PyData.strOk z = true) : opNeM (.str z) (.str z) = some (.bl false) := by
  unfold opNeM opNe
  have e : eqOk (.str z) (.str z) = true := by simp [eqOk, dOk, dDep, h]
  rw [if_pos e]
  simp [eqB]
end
end DL
set_option Elab.async false
set_option linter.all false
set_option maxRecDepth 100000
set_option maxHeartbeats 4000000
namespace DL
open PySem PySem.Spec PyProof.Rows L2
mutual
theorem reads_there {h : Heap} : ∀ {v : Value} {d : PyData} {as : List Addr}, Reads h v d as → ∀ a ∈ as, ∃ o, h.get? a = some o
  | _, _, _, .none, _, ha => nomatch ha
  | _, _, _, .bool _, _, ha => nomatch ha
  | _, _, _, .int _ _, _, ha => nomatch ha
  | _, _, _, .str _ _, _, ha => nomatch ha
  | _, _, _, .list h1 h2 h3 h4, a, ha => (List.mem_cons.mp ha).elim (fun e => e ▸ ⟨_, h1⟩) fun ha => readsA_there h4 a ha
  | _, _, _, .tuple h1 h2 h3 h4, a, ha => readsA_there h4 a ha
  | _, _, _, .dict h1 h2 h3 h4 h5, a, ha => (List.mem_append.mp ha).elim (fun ha => (List.mem_cons.mp ha).elim (fun e => e ▸ ⟨_, h1⟩) fun ha => readsA_there h4 a ha) fun ha => readsA_there h5 a ha
theorem readsA_there {h : Heap} : ∀ {vs : List Value} {ds : List PyData} {as : List Addr}, ReadsAll h vs ds as → ∀ a ∈ as, ∃ o, h.get? a = some o
  | _, _, _, .nil, _, ha => nomatch ha
  | _, _, _, .cons h1 h2, a, ha => (List.mem_append.mp ha).elim (fun ha => reads_there h1 a ha) fun ha => readsA_there h2 a ha
end
section
variable {M : Mp} {X : Cx} {W : WX} {e : Expr} {te : TE} {f : Env → DS → R D} {pos apos cpos p : Pos}
/-- the new pairs, in their order -/
def sortW (as : List Addr) (l : List D) : List V := (((as.map V.ref).zip l).mergeSort (PySem.W.dataLe false encZ)).map (·.1)
end
end DL
set_option Elab.async false
set_option linter.all false
set_option maxRecDepth 100000
set_option maxHeartbeats 4000000
namespace DL
open PySem PySem.Spec PyProof.Rows L2
section
variable {M : Mp} {X : Cx} {W : WX} {e : Expr} {te : TE} {f : Env → DS → R D} {pos apos cpos p : Pos}
local instance : Inhabited D := ⟨.non⟩
variable {a : Expr} {fa : Env → DS → R D}
end
end DL
set_option Elab.async false
set_option linter.all false
set_option maxRecDepth 100000
set_option maxHeartbeats 4000000
namespace DL
open PySem PySem.Spec PyProof.Rows L2
end DL
set_option Elab.async false
set_option linter.all false
set_option maxRecDepth 100000
set_option maxHeartbeats 4000000
namespace DL
open PySem PySem.Spec PyProof.Rows L2
end DL
set_option Elab.async false
set_option linter.all false
set_option maxRecDepth 100000
set_option maxHeartbeats 4000000
namespace DL
open PySem PySem.Spec PyProof.Rows L2
section
variable {M : Mp} {X : Cx} {W : WX}
def slU : D → D → D → D → Option D
  | .int a, .int c, .lst ys, .lst ds => if 0 ≤ a ∧ a ≤ c ∧ c ≤ ds.length ∧ ds.length + ys.length ≤ 16777216 then some (.lst (ds.take a.toNat ++ ys ++ ds.drop c.toNat)) else none
  | _, _, _, _ => none
def slB (fe : Env → DS → R D) (fp : Env → DS → R Plc) (fa fb : Env → DS → R D) : Env → DS → F := fun η s => (fe η s).toF η fun x s1 => (fp η s1).toF η fun pl s2 => (fa η s2).toF η fun i s3 => (fb η s3).toF η fun j s4 => wrF pl (slU i j x) η s4
end
end DL
set_option Elab.async false
set_option linter.all false
set_option maxRecDepth 100000
set_option maxHeartbeats 4000000
namespace DL
open PySem PySem.Spec PyProof.Rows L2
section
variable {M : Mp} {X : Cx} {W : WX} {e : Expr} {te : TE} {f : Env → DS → R D} {pos apos mpos cpos p : Pos}
def strIO : List D → Option D
  | [.int i] => if i.natAbs < 1000000 then some (.str (toString i)) else none
  | _ => none
theorem log2_small {n : Nat} (h : n < 1000000) : n.log2 < 1920 := by
  by_cases z : n = 0
  · subst z; decide
  · have h1 : 2 ^ n.log2 ≤ n := Nat.log2_self_le z
    have h2 : n.log2 < 20 := by
      by_cases c : n.log2 < 20
      · exact c
      · have : 2 ^ 20 ≤ 2 ^ n.log2 := Nat.pow_le_pow_right (by decide) (by omega)
        have e : (2 : Nat) ^ 20 = 1048576 := by decide
        omega
    omega
theorem cd_str : CallD M X (.type "str") strIO := by
  refine ⟨_, call_str_int, fun G hs s H ds z vs Q J hv e k => ?_⟩
  unfold strIO at e
  split at e
  · rename_i i
    split at e
    · rename_i hi
      cases e
      obtain ⟨v, rfl, h⟩ := hv.one
      exact ⟨i, by rw [h.int], log2_small hi, k G H (Stp.refl _ _ _ _) J _ (rep_str.mpr rfl)⟩
    · cases e
  · cases e
def gmG (g : D → Env → Option Env) : Tg := fun d η s k => match g d η with
  | some η' => k η' s
  | none => .bad
end
end DL
set_option Elab.async false
set_option linter.all false
set_option maxRecDepth 100000
set_option maxHeartbeats 4000000
namespace DL
open PySem PySem.Spec PyProof PyProof.Rows L2
end DL
namespace DL
open PySem PySem.Spec PyProof.Rows L2
section
variable {M : Mp} {X : Cx} {W : WX}
theorem RV.ins {K : PySem.W.Frag} {G H : Hp} {hs : List Addr} {s : DS} {c : Nat} {ds : List D} {v : V} (J : Sim K M G hs s H) (h : RV K M G hs H (.obj c ds) v) : ∃ a dx fs, v = .ref a ∧ H a = some (.ins (M.cls c) dx fs) := by
  rcases h with h | ⟨a, rfl, dx, fs, h1, h2⟩
  · obtain ⟨a, dx, fs, rfl, h1, h2, h3⟩ := rep_obj.mp h
    exact ⟨a, dx, fs, rfl, J.sub _ _ h1⟩
  · exact ⟨a, dx, fs, rfl, h1⟩
/-- an object of the class or a text against a text -/
def opEqO (c : Nat) : D → D → Option D
  | .obj c' _, .str _ => if c' = c then some (.bl false) else none
  | .str x, .str y => if PyData.strOk x = true ∧ PyData.strOk y = true then some (.bl (x == y)) else none
  | _, _ => none
def opNeO (c : Nat) : D → D → Option D
  | .obj c' _, .str _ => if c' = c then some (.bl true) else none
  | .str x, .str y => if PyData.strOk x = true ∧ PyData.strOk y = true then some (.bl (!(x == y))) else none
  | _, _ => none
theorem opNe_ssX {x y : Str} (h : PyData.strOk x = true) (h2 : PyData.strOk y = true) : opNe (.str x) (.str y) = some (.bl (!(x == y))) := by
  rw [opNe_ok (by simpa [okN] using h) (by simpa [okN] using h2)]
  simp [eqB]
theorem opEqO_o {c : Nat} {ds : List D} {z : Str} : opEqO c (.obj c ds) (.str z) = some (.bl false) := if_pos rfl
theorem opNeO_o {c : Nat} {ds : List D} {z : Str} : opNeO c (.obj c ds) (.str z) = some (.bl true) := if_pos rfl
theorem opEqO_s {c : Nat} {x y : Str} (h : PyData.strOk x = true) (h2 : PyData.strOk y = true) : opEqO c (.str x) (.str y) = some (.bl (x == y)) := if_pos ⟨h, h2⟩
theorem opNeO_s {c : Nat} {x y : Str} (h : PyData.strOk x = true) (h2 : PyData.strOk y = true) : opNeO c (.str x) (.str y) = some (.bl (!(x == y))) := if_pos ⟨h, h2⟩
end
end DL
set_option Elab.async false
set_option linter.all false
set_option maxRecDepth 100000
set_option maxHeartbeats 2000000
namespace DL
open PySem PySem.Spec PyProof.Rows L2
def popSet (i : Nat) (pl : Plc) (d : D) (ds : List D) (η : Env) (s : DS) : F := match pl with
  | .slot j => setF (η.set j (.o (.lst ds))) i d s
  | .han k => setF η i d (s.set k (.lst ds))
def popM (i : Nat) (pl : Plc) (η : Env) (s : DS) : List D → Option D → F
  | [.int 0], some (.lst (d :: ds)) => popSet i pl d ds η s
  | _, _ => .bad
def popK (i : Nat) (pl : Plc) (as : List D) (η : Env) (s : DS) : F := popM i pl η s as (plcD pl η s)
def popB (i : Nat) (fp : Env → DS → R Plc) (fa : Env → DS → R (List D)) : Env → DS → F := fun η s => (fp η s).toF η fun pl s1 => match plcD pl η s1 with
  | some d0 => if isLst d0 = true then (fa η s1).toF η fun as s2 => popK i pl as η s2 else .bad
  | none => .bad
end DL
set_option Elab.async false
set_option linter.all false
set_option maxRecDepth 100000
set_option maxHeartbeats 2000000
namespace DL
open PySem PySem.Spec PyProof.Rows L2
section
variable {M : Mp} {X : Cx} {W : WX} {K : PySem.W.Frag}
def sortTO : List D → Option D
  | [.tup l] => if l.all isKey = true ∧ sortOk l = true then some (.lst (sortD l)) else none
  | _ => none
end
end DL
set_option Elab.async false
set_option linter.all false
set_option maxRecDepth 100000
set_option maxHeartbeats 2000000
namespace DL
open PySem PySem.Spec PyProof.Rows L2
def revO : D → Option (List D)
  | .tup l => some l.reverse
  | _ => none
section
variable {M : Mp} {X : Cx} {W : WX} {K : PySem.W.Frag}
/-- a list or a tuple -/
def sqO : D → Option (List D)
  | .scr l => some (l.map D.int)
  | .lst l => some l
  | .tup l => some l
  | _ => none
end
end DL
set_option Elab.async false
set_option linter.all false
set_option maxRecDepth 100000
set_option maxHeartbeats 2000000
namespace DL
open PySem PySem.Spec PyProof.Rows L2
end DL
set_option Elab.async false
set_option linter.all false
set_option maxRecDepth 100000
set_option maxHeartbeats 4000000
namespace DL
open PySem PySem.Spec PyProof PyProof.Rows L2
def conL (p : D → Value → Bool) : List D → List Value → Bool
  | [], [] => true
  | d :: ds, u :: us => p d u && conL p ds us
  | _, _ => false
def conB (K : PySem.W.Frag) : Nat → D → Value → Bool
  | 0, _, _ => false
  | n + 1, d, u => match d, u with
    | .int i, .int j _ => decide (i = j)
    | .str x, .str y _ => decide (x = y)
    | .tup ds, .ref a => (match K.lookup a with
      | some o => (match o.cls, o.data with
        | .type T, .seq its _ => decide (T = "tuple") && decide (its.size ≤ 1000) && conL (conB K n) ds its.toList
        | _, _ => false)
      | none => false)
    | _, _ => false
def conN (K : PySem.W.Frag) (a : Addr) : Bool := match K.lookup a with
  | some o => o.dict.isNone
  | none => false
def cellB (K : PySem.W.Frag) (C cc : Addr) : Bool := match K.lookup cc with
  | some ⟨_, _, .cell (some (.ref D)), _⟩ => D == C
  | _ => false
def fileB (K : PySem.W.Frag) (file : Str) (cda : Addr) : Bool := match K.lookup cda with
  | some ⟨_, _, .fields vs, _⟩ => (match (vs[2]? : Option Value) with
    | some (Value.str f _) => f == file
    | _ => false)
  | _ => false
def scopeB (sc : Scope) : Bool := decide (sc.kind = .function) && (decide (sc.isCoroutine = false) && (decide (sc.isGenerator = false) && ((sc.names.all fun x => decide (x.2 ≠ .cell)) && (decide (sc.names.lookup ("super" : Str) = some .globalImplicit) &&
  (decide (sc.names.lookup ("__class__" : Str) = some .free) && (decide (sc.names.lookup ("self" : Str) = some .local) && decide (sc.names.lookup ("row" : Str) = some .local)))))))
def fdB (K : PySem.W.Frag) (file : Str) (C : Addr) (fd : FuncData) : Bool := match fd.params, fd.body, fd.closure, fd.code with
  | ⟨[], [⟨a1, none, _⟩, ⟨a2, none, _⟩], none, [], [], none, []⟩, .stmts [.Expr (.Call (.Attribute (.Call (.Name sp _) [] [] _) ini p2) [.Constant (.str _) _ _] [] p4) _, .Assign [.Attribute (.Name sf _) rw _] (.Name rw2 _) _], [(cn, cc)], .ref cda =>
    decide (a1 = "self" ∧ a2 = "row" ∧ sp = "super" ∧ ini = "__init__" ∧ sf = "self" ∧ rw = "row" ∧ rw2 = "row" ∧ cn = "__class__") && (decide (fd.globals = mainGlobals) && (decide (fd.builtins = builtinsNs) && (decide (fd.defaults = .none) &&
      (PySem.W.codeIn K (.ref cda) fd.qualname && (scopeB fd.scope && ((p2.endLine == p4.line) && (fileB K file cda && cellB K C cc)))))))
  | _, _, _, _ => false
def oexB (K : PySem.W.Frag) (C : Addr) : Bool := (match K.lookup C with
  | some ⟨.type T, dd, .cls cd, sl⟩ => decide (T = "type") && (match cd.mro, sl.toList with
    | .ref C' :: bm, [_, _, _, _, some (.builtin n), _] => decide (C' = C) && (decide (n = "ValueError.__new__") && (decide (cd.hasDel = false) && (decide (cd.hasDict = true) && PySem.HandSPX.refsVE bm)))
    | _, _ => false)
  | _ => false) && (He.eqO (PySem.W.findIn K (.ref C) "__setattr__") (some (some (.builtin "object.__setattr__"))) && (decide (PySem.W.subIn K (.ref C) (.type "BaseException") = some true) && (decide (PySem.W.typeIn K (.ref C) = some (.type "type")) && PySem.W.keepIn K (.ref C))))
def btB (K : PySem.W.Frag) (file : Str) (C : Addr) : Bool := oexB K C && (match PySem.W.findIn K (.ref C) "__init__" with
  | some (some (.ref fI)) => decide (PySem.W.typeIn K (.ref fI) = some (.type "function")) && (match K.lookup fI with
    | some ⟨_, _, .func fd, _⟩ => fdB K file C fd
    | _ => false)
  | _ => false) && (decide (PySem.W.mroIn K C (.ref C) = some true) && (He.eqO (PySem.W.nsIn K cStatics "thirdparty.any") (some none) && (He.eqO (PySem.W.ks_superIn K C C "__init__") (some (some (.builtin "ValueError.__init__"))) &&
    (decide (PySem.W.subIn K (.ref C) (.type "ValueError") = some true) && (PySem.W.excInitIn K C [.type "ValueError", .type "Exception", .type "BaseException", .type "object"] "ValueError.__new__" && He.eqO (PySem.W.findIn K (.ref C) "row") (some none))))))
end DL
set_option Elab.async false
set_option linter.all false
set_option maxRecDepth 100000
set_option maxHeartbeats 2000000
namespace DL
open PySem PySem.Spec PyProof.Rows L2
theorem con_rep {K : PySem.W.Frag} {M : Mp} (hr : M.raw = false) : ∀ (n : Nat) (d : D) (u : Value), conB K n d u = true → ∃ v, RelV v u ∧ ∀ G hs, Rep K M G hs d v
  | 0, _, _, h => by cases h
  | n + 1, d, u, h => by
    have lst : ∀ (ds : List D) (us : List Value), conL (conB K n) ds us = true → ∃ vs, Vals vs us ∧ ∀ G hs, RepL K M G hs ds vs := by
      intro ds
      induction ds with
      | nil =>
        intro us h
        cases us with
        | nil => exact ⟨[], .nil, fun _ _ => repL_nil.mpr rfl⟩
        | cons u us => cases h
      | cons d ds ih =>
        intro us h
        cases us with
        | nil => cases h
        | cons u us =>
          unfold conL at h
          rw [Bool.and_eq_true] at h
          obtain ⟨v, r1, r2⟩ := con_rep hr n d u h.1
          obtain ⟨vs, k1, k2⟩ := ih us h.2
          exact ⟨v :: vs, .cons r1 k1, fun G hs => repL_cons.mpr ⟨v, vs, rfl, r2 G hs, k2 G hs⟩⟩
    unfold conB at h
    split at h
    · rename_i i j t
      have e := of_decide_eq_true h
      subst e
      exact ⟨.int i, ⟨t, rfl⟩, fun G hs => rep_int.mpr rfl⟩
    · rename_i x y t
      have e := of_decide_eq_true h
      subst e
      exact ⟨.str x, ⟨t, rfl⟩, fun G hs => rep_str.mpr rfl⟩
    · rename_i ds a
      split at h
      · rename_i o ho
        split at h
        · rename_i T its m ec ed
          rw [Bool.and_eq_true, Bool.and_eq_true] at h
          obtain ⟨⟨h1, h2⟩, h3⟩ := h
          have h1 := of_decide_eq_true h1
          have h2 := of_decide_eq_true h2
          obtain ⟨vs, k1, k2⟩ := lst ds its.toList h3
          have hs : its.size ≤ sizeLine := by rw [sizeLine_eq]; omega
          exact ⟨.ref a, rfl, fun G hs2 => rep_tupq.mpr ⟨a, vs, rfl, .loose hr (.inr ⟨o, its, m, ho, by rw [ec, h1], ed, hs, k1⟩), k2 G hs2⟩⟩
        · cases h
      · cases h
    · cases h
end DL
set_option Elab.async false
set_option linter.all false
set_option maxRecDepth 100000
set_option maxHeartbeats 4000000
namespace DL
open PySem PySem.Spec PyProof.Rows L2
end DL
set_option Elab.async false
set_option linter.all false
set_option maxRecDepth 100000
set_option maxHeartbeats 2000000
namespace DL
open PySem PySem.Spec PyProof.Rows L2
section
variable {M : Mp} {X : Cx} {W : WX} {K : PySem.W.Frag}
def popU : List D → D → Option D
  | [.int 0], .lst (_ :: ds) => some (.lst ds)
  | _, _ => none
end
end DL
set_option Elab.async false
set_option linter.all false
set_option maxRecDepth 100000
set_option maxHeartbeats 4000000
namespace DL
open PySem PySem.Spec PyProof.Rows L2
section
variable {M : Mp} {X : Cx} {W : WX}
def conDicD (ds : List D) : Env → DS → R D := fun _ s => R.ofO ((pairsD ds).map fun kvs => D.dic (mergeD [] kvs)) s
end
end DL
set_option Elab.async false
set_option linter.all false
set_option maxRecDepth 100000
set_option maxHeartbeats 4000000
namespace DL
open PySem PySem.Spec PyProof.Rows L2
end DL
set_option Elab.async false
set_option linter.all false
set_option maxRecDepth 100000
set_option maxHeartbeats 2000000
namespace DL
open PySem PySem.Spec PyProof.Rows L2
end DL
set_option Elab.async false
set_option linter.all false
set_option maxRecDepth 100000
set_option maxHeartbeats 2000000
namespace DL
open PySem PySem.Spec PyProof.Rows L2
end DL
set_option Elab.async false
set_option linter.all false
set_option maxRecDepth 100000
set_option maxHeartbeats 2000000
namespace DL
open PySem PySem.Spec PyProof.Rows L2
open PySem.Sem (wp)
open RZ
/-- zip(t, l): a tuple and a list -/
def zipMO : List D → Option (List D)
  | [.tup l, .lst m] => some (zipL l m)
  | _ => none
theorem zipMO_tl {l m : List D} : zipMO [.tup l, .lst m] = some (zipL l m) := rfl
end DL
set_option Elab.async false
set_option linter.all false
set_option maxRecDepth 100000
set_option maxHeartbeats 2000000
namespace DL
open PySem PySem.Spec PyProof.Rows L2
section
variable {M : Mp} {X : Cx} {W : WX}
def indexTO (l : List D) : List D → Option D
  | [d] => if eqOk (.lst l) d = true then (l.findIdx? fun y => eqB y d).map fun j => .int (j : Nat) else none
  | _ => none
def conIxD (l : List D) (g : Env → DS → R (List D)) : Env → DS → R D := fun η s => (g η s).bind fun ds s1 => R.ofO (indexTO l (ds.map (deref s1))) s1
end
theorem conIxD_eq {l : List D} {g : Env → DS → R (List D)} {η : Env} {s : DS} : conIxD l g η s = (g η s).bnd fun ds s1 => R.ofO (indexTO l (ds.map (deref s1))) s1 := rfl
end DL
set_option Elab.async false
set_option linter.all false
set_option maxRecDepth 100000
set_option maxHeartbeats 2000000
namespace DL
open PySem PySem.Spec PyProof.Rows L2
abbrev keyT (k : List Key) : D := .tup (k.map keyD)
def toKL : List D → Option (List Key)
  | [] => some []
  | d :: l => match toK d, toKL l with
    | some k, some r => some (k :: r)
    | _, _ => none
def toKT : D → Option (List Key)
  | .tup l => toKL l
  | _ => none
theorem toKL_map : ∀ k : List Key, toKL (k.map keyD) = some k
  | [] => rfl
  | a :: k => by rw [List.map_cons, toKL, toK_keyD, toKL_map k]
theorem toKT_key (k : List Key) : toKT (keyT k) = some k := toKL_map k
theorem toKL_some : ∀ {l : List D} {k : List Key}, toKL l = some k → k.map keyD = l
  | [], k, h => by cases h; rfl
  | d :: l, k, h => by
    unfold toKL at h
    cases e1 : toK d with
    | none => rw [e1] at h; cases h
    | some a =>
      cases e2 : toKL l with
      | none => rw [e1, e2] at h; cases h
      | some r =>
        rw [e1, e2] at h
        cases h
        rw [List.map_cons, toK_some e1, toKL_some e2]
theorem toKT_some {d : D} {k : List Key} (h : toKT d = some k) : keyT k = d := by
  cases d <;> try cases h
  rename_i l
  show D.tup (k.map keyD) = .tup l
  rw [toKL_some (show toKL l = some k from h)]
def isKeyT (d : D) : Bool := (toKT d).isSome
theorem isKeyT_some {d : D} (h : isKeyT d = true) : ∃ k, toKT d = some k := Option.isSome_iff_exists.mp h
/-- keys alike -/
def kEqT (a b : D) : Bool := decide (toKT a = toKT b)
theorem kEqT_key (a b : List Key) : kEqT (keyT a) (keyT b) = decide (a = b) := by
  unfold kEqT
  rw [toKT_key, toKT_key]
  simp
def valT (kvs : List (D × D)) (k : D) : Option D := (kvs.find? fun p => kEqT p.1 k).map (·.2)
def putT (kvs : List (D × D)) (k v : D) : List (D × D) := if (kvs.any fun p => kEqT p.1 k) = true then kvs.map (fun p => if kEqT p.1 k = true then (p.1, v) else p) else kvs ++ [(k, v)]
section
variable {K : PySem.W.Frag} {M : Mp} {G G' H : Hp} {hs : List Addr} {s : DS}
theorem repT_nil {vs : List (List Key × V)} : RepT K M G hs [] vs ↔ vs = [] := by unfold RepT; rfl
theorem repT_cons {k d : D} {ds : List (D × D)} {vs : List (List Key × V)} : RepT K M G hs ((k, d) :: ds) vs ↔ ∃ k' v vr, vs = (k', v) :: vr ∧ keyT k' = k ∧ Rep K M G hs d v ∧ RepT K M G hs ds vr := by
  constructor
  · intro h; unfold RepT at h; exact h
  · intro h; unfold RepT; exact h
theorem RepT.length : ∀ {ds : List (D × D)} {vs : List (List Key × V)}, RepT K M G hs ds vs → ds.length = vs.length
  | [], vs, h => by rw [repT_nil] at h; subst h; rfl
  | (k, d) :: ds, vs, h => by
    rw [repT_cons] at h
    obtain ⟨k', v, vr, rfl, _, _, h3⟩ := h
    simp [RepT.length h3]
theorem RepT.val (k : List Key) : ∀ {ds : List (D × D)} {vs : List (List Key × V)}, RepT K M G hs ds vs → ORep K M G hs (valT ds (keyT k)) (valV vs k)
  | [], vs, h => by rw [repT_nil] at h; subst h; trivial
  | (k1, d) :: ds, vs, h => by
    rw [repT_cons] at h
    obtain ⟨k', v, vr, rfl, rfl, h2, h3⟩ := h
    have ih := RepT.val k h3
    unfold valT valV at *
    rw [List.find?_cons, List.find?_cons]
    simp only [kEqT_key]
    by_cases e : k' = k
    · simp only [e, decide_true]
      exact h2
    · simp only [e, decide_false]
      exact ih
theorem RepT.any (k : List Key) : ∀ {ds : List (D × D)} {vs : List (List Key × V)}, RepT K M G hs ds vs → (ds.any fun p => kEqT p.1 (keyT k)) = (vs.any fun p => decide (p.1 = k))
  | [], vs, h => by rw [repT_nil] at h; subst h; rfl
  | (k1, d) :: ds, vs, h => by
    rw [repT_cons] at h
    obtain ⟨k', v, vr, rfl, rfl, h2, h3⟩ := h
    rw [List.any_cons, List.any_cons, RepT.any k h3]
    simp only [kEqT_key]
theorem RepT.append : ∀ {ds es : List (D × D)} {vs ws : List (List Key × V)}, RepT K M G hs ds vs → RepT K M G hs es ws → RepT K M G hs (ds ++ es) (vs ++ ws)
  | [], _, vs, _, h, g => by rw [repT_nil] at h; subst h; exact g
  | (k, d) :: ds, _, vs, _, h, g => by
    rw [repT_cons] at h
    obtain ⟨k', v, vr, rfl, h1, h2, h3⟩ := h
    rw [List.cons_append, List.cons_append, repT_cons]
    exact ⟨k', v, _, rfl, h1, h2, RepT.append h3 g⟩
theorem RepT.over {x : D} {y : V} (k : List Key) (hx : Rep K M G hs x y) : ∀ {ds : List (D × D)} {vs : List (List Key × V)}, RepT K M G hs ds vs → RepT K M G hs (ds.map fun p => if kEqT p.1 (keyT k) = true then (p.1, x) else p) (vs.map fun p => if p.1 = k then (p.1, y) else p)
  | [], vs, h => by rw [repT_nil] at h; subst h; exact repT_nil.mpr rfl
  | (k1, d) :: ds, vs, h => by
    rw [repT_cons] at h
    obtain ⟨k', v, vr, rfl, rfl, h2, h3⟩ := h
    have ih := RepT.over k hx h3
    rw [List.map_cons, List.map_cons]
    simp only [kEqT_key]
    by_cases e : k' = k
    · simp only [e, decide_true, if_true]
      exact repT_cons.mpr ⟨k, y, _, rfl, rfl, hx, by simpa [kEqT_key] using ih⟩
    · simp only [e, decide_false, if_false]
      rw [if_neg (by simp)]
      exact repT_cons.mpr ⟨k', v, _, rfl, rfl, h2, ih⟩
theorem RepT.put {ds : List (D × D)} {vs : List (List Key × V)} {x : D} {y : V} (k : List Key) (h : RepT K M G hs ds vs) (hx : Rep K M G hs x y) : RepT K M G hs (putT ds (keyT k) x) (L2.putK vs k y) := by
  unfold putT L2.putK
  rw [h.any k]
  split
  · exact RepT.over k hx h
  · exact h.append (repT_cons.mpr ⟨k, y, [], rfl, rfl, hx, repT_nil.mpr rfl⟩)
/-- a raw tuple of keys -/
theorem repL_kT : ∀ {k : List Key} {vs : List V}, RepL K M G hs (k.map keyD) vs → vs = k.map kV
  | [], vs, h => repL_nil.mp h
  | a :: k, vs, h => by
    rw [List.map_cons, repL_cons] at h
    obtain ⟨v, vr, rfl, h1, h2⟩ := h
    rw [rep_keyD.mp h1, repL_kT h2]
    rfl
theorem Rep.keyT (m : M.raw = true) {d : D} {k : List Key} {v : V} (h : Rep K M G hs d v) (e : toKT d = some k) : ∃ b, v = .ref b ∧ G b = some (.tup (k.map kV)) := by
  have e := toKT_some e
  subst e
  obtain ⟨a, vs, rfl, h1, h2⟩ := rep_tupq.mp h
  rw [repL_kT h2] at h1
  exact ⟨a, rfl, h1.is m⟩
theorem RV.dit {kvs : List (D × D)} {v : V} (J : Sim K M G hs s H) (h : RV K M G hs H (.dit kvs) v) : ∃ a l, v = .ref a ∧ Rd H a (.dT l) ∧ RepT K M G hs kvs l := by
  rcases h with h | ⟨a, rfl, l, h1, h2⟩
  · obtain ⟨a, o, l, rfl, h1, h2⟩ := rep_dit.mp h
    exact ⟨a, l, rfl, .inr ⟨o, J.sub _ _ h1⟩, h2⟩
  · exact ⟨a, l, rfl, .inl h1, h2⟩
end
section
variable {M : Mp} {X : Cx} {W : WX} {K : PySem.W.Frag} {a b e : Expr} {fa fb : Env → DS → R D} {pos p : Pos}
def opTin : D → D → Option D
  | k, .dit kvs => if isKeyT k = true then some (.bl (valT kvs k).isSome) else none
  | _, _ => none
def opTnin : D → D → Option D
  | k, .dit kvs => if isKeyT k = true then some (.bl (!(valT kvs k).isSome)) else none
  | _, _ => none
def opTix : D → D → Option D
  | .dit kvs, k => if isKeyT k = true then valT kvs k else none
  | _, _ => none
def setTi : D → D → D → Option D
  | k, x, .dit kvs => if isKeyT k = true ∧ kvs.length < 16777216 then some (.dit (putT kvs k x)) else none
  | _, _, _ => none
end
end DL
set_option Elab.async false
set_option linter.all false
set_option maxRecDepth 100000
set_option maxHeartbeats 2000000
namespace DL
open PySem PySem.Spec PyProof.Rows L2
section
variable {M : Mp} {X : Cx} {W : WX} {a b : Expr} {fa fb : Env → DS → R D} {pos : Pos}
def pair1T (fk fv : Env → DS → R D) : Env → DS → R (D × D) := fun η s => (fk η s).bind fun k s1 => if isKeyT k = true then (fv η s1).bind fun v s2 => .ok (k, v) s2 else .bad
def disp1T (fk fv : Env → DS → R D) : Env → DS → R D := fun η s => (pair1T fk fv η s).bind fun kv s1 => .ok (.dit [kv]) s1
end
end DL
set_option Elab.async false
set_option linter.all false
set_option maxRecDepth 100000
set_option maxHeartbeats 2000000
namespace DL
open PySem PySem.Spec PyProof.Rows L2
/-- each key's first place -/
def insA (acc : List (List Key × Addr)) (x : List Key × Addr) : List (List Key × Addr) := if (acc.any fun y => decide (y.1 = x.1)) = true then acc else acc ++ [x]
def insT (acc : List D) (k : D) : List D := if (acc.any fun y => kEqT y k) = true then acc else acc ++ [k]
def keysT : List D → Option (List D)
  | [] => some []
  | .tup [k, _] :: r => if isKeyT k = true then (keysT r).map (k :: ·) else none
  | _ => none
/-- the keys of dict(l), each at its first place -/
def dkT : List D → Option (List D)
  | [.lst l] => (keysT l).map fun ks => ks.foldl insT []
  | _ => none
section
variable {M : Mp} {X : Cx} {W : WX} {K : PySem.W.Frag} {G H : Hp} {hs : List Addr}
abbrev KA (G : Hp) : List D → List (List Key × Addr) → Prop := Paired fun d x => keyT x.1 = d ∧ G x.2 = some (.tup (x.1.map kV))
theorem KA.any {k : List Key} : ∀ {ks : List D} {xs : List (List Key × Addr)}, KA G ks xs → (ks.any fun y => kEqT y (keyT k)) = xs.any fun y => decide (y.1 = k)
  | _, _, .nil => rfl
  | _, _, .cons (a := d) (b := x) h t => by
    rw [List.any_cons, List.any_cons, KA.any t, ← h.1, kEqT_key]
theorem KA.ins {ks : List D} {xs : List (List Key × Addr)} {x : List Key × Addr} (h : KA G ks xs) (hx : G x.2 = some (.tup (x.1.map kV))) : KA G (insT ks (keyT x.1)) (insA xs x) := by
  unfold insT insA
  rw [KA.any h]
  split
  · exact h
  · exact Paired.snoc h ⟨rfl, hx⟩
end
theorem disp1T_eq {fk fv : Env → DS → R D} {η : Env} {s : DS} : disp1T fk fv η s = (fk η s).bnd fun k s1 => if isKeyT k = true then (fv η s1).bnd fun v s2 => .ok (.dit [(k, v)]) s2 else .bad := by
  unfold disp1T pair1T
  cases fk η s with
  | ok k s1 =>
    show R.bind (if isKeyT k = true then _ else _) _ = (if isKeyT k = true then _ else _)
    by_cases h : isKeyT k = true
    · rw [if_pos h, if_pos h]
      cases fv η s1 <;> rfl
    · rw [if_neg h, if_neg h]
  | ex c p s1 => rfl
  | bad => rfl
theorem opTin_d {k : D} {kvs : List (D × D)} : opTin k (.dit kvs) = if isKeyT k = true then some (.bl (valT kvs k).isSome) else none := rfl
theorem opTnin_d {k : D} {kvs : List (D × D)} : opTnin k (.dit kvs) = if isKeyT k = true then some (.bl (!(valT kvs k).isSome)) else none := rfl
theorem opTix_d {k : D} {kvs : List (D × D)} : opTix (.dit kvs) k = if isKeyT k = true then valT kvs k else none := rfl
theorem setTi_d {k x : D} {kvs : List (D × D)} : setTi k x (.dit kvs) = if isKeyT k = true ∧ kvs.length < 16777216 then some (.dit (putT kvs k x)) else none := rfl
theorem dkT_l {l : List D} : dkT [.lst l] = (keysT l).map fun ks => ks.foldl insT [] := rfl
theorem toKL_strs : ∀ l : List Str, toKL (l.map D.str) = some (l.map Sum.inr)
  | [] => rfl
  | a :: l => by rw [List.map_cons, toKL, toKL_strs l]; rfl
theorem toKT_strs (l : List Str) : toKT (.tup (l.map D.str)) = some (l.map Sum.inr) := toKL_strs l
theorem isKeyT_strs {l : List Str} : isKeyT (.tup (l.map D.str)) = true := by
  unfold isKeyT
  rw [toKT_strs]
  rfl
theorem kEqT_strs {l m : List Str} : kEqT (.tup (l.map D.str)) (.tup (m.map D.str)) = decide (l = m) := by
  unfold kEqT
  rw [toKT_strs, toKT_strs, decide_eq_decide]
  constructor
  · intro h
    injection h with h
    exact List.map_inj_right (fun a b e => by injection e) |>.mp h
  · intro h
    rw [h]
end DL
set_option Elab.async false
set_option linter.all false
set_option maxRecDepth 100000
set_option maxHeartbeats 2000000
namespace DL
open PySem PySem.Spec PyProof.Rows L2
section
variable {M : Mp} {X : Cx} {W : WX} {K : PySem.W.Frag}
def sortXO : List D → Option D
  | [.tup l] => sortTO [.tup l]
  | ds => sortedO ds
theorem sortXO_l {l : List D} : sortXO [.lst l] = sortedO [.lst l] := rfl
theorem sortXO_d {l : List (D × D)} : sortXO [.dic l] = sortedO [.dic l] := rfl
theorem sortXO_t {l : List D} : sortXO [.tup l] = sortTO [.tup l] := rfl
theorem deref_dit {s : DS} {l : List (D × D)} : deref s (.dit l) = .dit l := rfl
end
end DL
set_option Elab.async false
set_option linter.all false
set_option maxRecDepth 100000
set_option maxHeartbeats 2000000
namespace DL
open PySem PySem.Spec PyProof.Rows L2 NdefX LamX
end DL
set_option Elab.async false
set_option linter.all false
set_option maxRecDepth 100000
set_option maxHeartbeats 4000000
namespace DL
open PySem PySem.Spec PyProof.Rows L2
end DL
set_option Elab.async false
set_option linter.all false
set_option maxRecDepth 100000
set_option maxHeartbeats 2000000
namespace DL
open PySem PySem.Spec PyProof.Rows L2
section
variable {η : DL.Env} {s : DS}
theorem lc2D_eq {fi : DL.Env → DS → R (List D)} {put : D → DL.Env → Option DL.Env} {ft : DL.Env → DS → R Bool} {fi1 : DL.Env → DS → R (List D)} {put1 : D → DL.Env → Option DL.Env} {ft1 : DL.Env → DS → R Bool} {fe : DL.Env → DS → R D} {vs vs1 : List Nat} : lc2D fi put ft fi1 put1 ft1 fe vs vs1 η s = (fi η s).bnd fun ds s1 => if ds.length ≤ 4095 then (lc2F put ft fi1 put1 ft1 fe vs1 (wipeE η vs) ds s1).bnd fun ys s2 => .ok (.lst ys) s2 else .bad := rfl
theorem asgmB_eq {f : Tg} {fe : DL.Env → DS → R D} : asgmB f fe η s = (fe η s).toF η fun d s1 => f d η s1 F.nx := rfl
theorem gmSub_eq {fp : DL.Env → DS → R Plc} {fi : DL.Env → DS → R D} {u : D → D → D → Option D} {x : D} {k : DL.Env → DS → F} : gmSub fp fi u x η s k = (fp η s).toF η fun pl s1 => (fi η s1).toF η fun i s2 => seqK (wrF pl (u i x) η s2) k := rfl
theorem gmN_eq {k : DL.Env → DS → F} : gmN [] η s k = k η s := rfl
theorem gmC_eq {f : Tg} {g : Tgs} {d : D} {r : List D} {k : DL.Env → DS → F} : gmC f g (d :: r) η s k = f d η s fun η1 s1 => g r η1 s1 k := rfl
theorem gmT_eq {n : Nat} {g : Tgs} {ds : List D} {k : DL.Env → DS → F} : gmT n g (.tup ds) η s k = if ds.length = n then g ds η s k else .bad := rfl
theorem gmG_eq {g : D → DL.Env → Option DL.Env} {d : D} {k : DL.Env → DS → F} : gmG g d η s k = match g d η with | some η' => k η' s | none => .bad := rfl
theorem slB_eq {fe : DL.Env → DS → R D} {fp : DL.Env → DS → R Plc} {fa fb : DL.Env → DS → R D} : slB fe fp fa fb η s = (fe η s).toF η fun x s1 => (fp η s1).toF η fun pl s2 => (fa η s2).toF η fun i s3 => (fb η s3).toF η fun j s4 => wrF pl (slU i j x) η s4 := rfl
theorem slU_eq {a c : Int} {ys ds : List D} : slU (.int a) (.int c) (.lst ys) (.lst ds) = if 0 ≤ a ∧ a ≤ c ∧ c ≤ ds.length ∧ ds.length + ys.length ≤ 16777216 then some (.lst (ds.take a.toNat ++ ys ++ ds.drop c.toNat)) else none := rfl
theorem seqK_nx {k : DL.Env → DS → F} : seqK (.nx η s) k = k η s := rfl
theorem popB_eq {i : Nat} {fp : DL.Env → DS → R Plc} {fa : DL.Env → DS → R (List D)} : popB i fp fa η s = (fp η s).toF η fun pl s1 => stAK (plcD pl η s1) fun d0 => if isLst d0 = true then (fa η s1).toF η fun ds s2 => popK i pl ds η s2 else .bad := rfl
theorem popK_eq {i : Nat} {pl : Plc} {ds : List D} : popK i pl ds η s = popM i pl η s ds (plcD pl η s) := rfl
theorem popM_c {i : Nat} {pl : Plc} {d : D} {ds : List D} : popM i pl η s [.int 0] (some (.lst (d :: ds))) = popSet i pl d ds η s := rfl
theorem popSet_s {i j : Nat} {d : D} {ds : List D} : popSet i (.slot j) d ds η s = setF (η.set j (.o (.lst ds))) i d s := rfl
theorem popSet_h {i j : Nat} {d : D} {ds : List D} : popSet i (.han j) d ds η s = setF η i d (s.set j (.lst ds)) := rfl
theorem popU_c {d : D} {ds : List D} : popU [.int 0] (.lst (d :: ds)) = some (.lst ds) := rfl
theorem conDicD_eq {ds : List D} : conDicD ds η s = R.ofO ((pairsD ds).map fun kvs => D.dic (mergeD [] kvs)) s := rfl
theorem sqO_t {l : List D} : sqO (.tup l) = some l := rfl
theorem sqO_l {l : List D} : sqO (.lst l) = some l := rfl
theorem revO_t {l : List D} : revO (.tup l) = some l.reverse := rfl
theorem lstIO_d {kvs : List (D × D)} : lstIO (.dic kvs) = some (.lst (kvs.map itmD)) := rfl
end
end DL
set_option Elab.async false
set_option linter.all false
set_option maxRecDepth 100000
set_option maxHeartbeats 2000000
namespace DR
open PySem L2 DL
noncomputable def B_law_roll : DL.Env → DS → F := seqB (ifB (orT (tstD (bopD opEq (bopD opIx (vB 0) (cD (.int 2))) (cD (.int 2)))) (andT (tstD (bopD opEq (bopD opIx (vB 0) (cD (.int 2))) (cD (.int 1)))) (tstD (bopD opGt (bopD opIx (vB 0) (cD (.int 0))) (cD (.int 0)))))) (seqB (setB 2 (bopD opMod (bltD intO (consA (bopD opIx (vB 0) (cD (.int 0))) (nilA))) (vB 1))) (seqB (stB (bopD opDiv (bopD opIx (vB 0) (cD (.int 0))) (vB 1)) (plV 0) (cD (.int 0)) setL) (retB (vD 2)))) (nextB)) (seqB (stB (cD (.int 0)) (plV 0) (cD (.int 2)) setL) (seqB (stB (bopD opMod (bltD intO (consA (bopD opAdd (bopD opAdd (bopD opMul (bopD opIx (vB 0) (cD (.int 0))) (cD (.int 48271))) (bopD opMul (bopD opIx (vB 0) (cD (.int 1))) (cD (.int 69621)))) (cD (.int 11))) (nilA))) (cD (.int 2147483647))) (plV 0) (cD (.int 0)) setL) (seqB (stB (bopD opAdd (bopD opIx (vB 0) (cD (.int 1))) (cD (.int 1))) (plV 0) (cD (.int 1)) setL) (retB (bopD opMod (bltD intO (consA (bopD opAdd (bopD opDiv (bopD opIx (vB 0) (cD (.int 0))) (cD (.int 7))) (bopD opIx (vB 0) (cD (.int 0)))) (nilA))) (vB 1))))))
noncomputable def m_law_roll : List D → DS → R D := fnD 3 B_law_roll
noncomputable def B_law_dice : DL.Env → DS → F := seqB (ifB (tstD (chD opLt opLt (bopD opSub (cD (.int 0)) (cD (.int 10))) (vB 0) (cD (.int 10)))) (retB (hanD (lstD (consA (bltD absO (consA (vB 0) (nilA))) (consA (cD (.int 0)) (consA (cD (.int 2)) (nilA))))))) (nextB)) (retB (hanD (lstD (consA (vD 0) (consA (bopD opAdd (cD (.int 1)) (bopD opMod (bltD intO (consA (vB 0) (nilA))) (cD (.int 1009)))) (consA (bltD intO (consA (bopD opGe (vB 0) (bopD opPow (cD (.int 10)) (cD (.int 18)))) (nilA))) (nilA)))))))
noncomputable def m_law_dice : List D → DS → R D := fnD 1 B_law_dice
noncomputable def B_law_rounds : DL.Env → DS → F := seqB (setB 2 (sliceD (vB 0) (partN) (partS (vD 1)))) (seqB (ifB (tstD (bopD opEq (vB 2) (lstD (nilA)))) (setB 2 (lstD (consA (cD (.int 0)) (nilA)))) (nextB)) (retB (calmD (lcD (iterD scrO (vD 2)) (gN 3) (yesT) (callD (gateD 1 m_law_dice) (consA (vD 3) (nilA))) [3]))))
noncomputable def m_law_rounds : List D → DS → R D := fnD 4 B_law_rounds
structure Dc where
  a : Int
  b : Int
  c : Int
def Dc.d (x : Dc) : D := .lst [.int x.a, .int x.b, .int x.c]
def Dc.low (x : Dc) : Bool := decide (x.c = 2) || (decide (x.c = 1) && decide (0 < x.a))
def Dc.mix (x : Dc) : Int := (x.a * 48271 + x.b * 69621 + 11) % 2147483647
def Dc.roll (x : Dc) (m : Int) : Int := if x.low = true then x.a % m else (x.mix / 7 + x.mix) % m
def Dc.next (x : Dc) (m : Int) : Dc := if x.low = true then ⟨x.a / m, x.b, x.c⟩ else ⟨x.mix, x.b + 1, 0⟩
theorem Dc.roll_bd (x : Dc) {m : Int} (h : 0 < m) : 0 ≤ x.roll m ∧ x.roll m < m := by
  unfold Dc.roll
  split
  · exact ⟨Int.emod_nonneg _ (by omega), Int.emod_lt_of_pos _ h⟩
  · exact ⟨Int.emod_nonneg _ (by omega), Int.emod_lt_of_pos _ h⟩
local macro_rules | `(tactic| walk_at "dl") => `(tactic| simp -implicitDefEqProofs (disch := first | omega | assumption | (simp only [okN, okNL, okNL_mi, D.has, hasL, flt, isI, isS, List.all_cons, List.all_nil, Bool.or_true, Bool.true_or, Bool.false_or, Bool.false_and, Bool.and_self, Bool.and_true, Bool.true_and]; done) | (simp only [List.length_cons, List.length_nil, List.length_append, List.length_map, List.length_range]; omega) | (simp only [okN, okNL, Bool.and_self, Bool.and_true, Bool.true_and]; decide +kernel) | decide +kernel | fail) only [ opEqDs_d, opEqDs_s, opEqN_l, opNeN_l, List.isEmpty_cons, List.isEmpty_nil, List.isEmpty_map, lc2D_eq, asgmB_eq, opEqO_o, opNeO_o, opEqO_s, opNeO_s, gmG_eq, slB_eq, slU_eq, gmSub_eq, gmN_eq, gmC_eq, gmT_eq, seqK_nx, deref_tup0, calmDD_eq, calmDK_d, dnewD_eq, frzDB_eq, frzDK_d, opDix_i, opDix_s, opDin_i, opDin_s, opDnin_i, opDnin_s, setDi_i, setDi_s, getDi_i, getDi_s, isDic_d, getD1_eq, getD2_eq, get1O_i, get1O_s, get2O_i, get2O_s, lenDO_d, listKO_d, dicK_d, dicV_d, dicI_d, tupIO_d, dicIO_d, dictO_d, nilP_eq, consP_eq, dispD_eq, isKey_i, isKey_s, opIs_x, opIsNot_x, isN_n, isN_i, isN_s, isN_t, isN_l, untD_eq, un0_t, ix0D_eq, isTup0_t, tup0O_l, rgaD_eq, minTO_eq, enumTO_t, maxTO_eq, sortK_eq, bopTD_eq, ofO_some, seqB_eq, then_nx, then_rt, then_bk, then_ct, then_ex, then_bad, bind_ok, bind_ex, bind_bad, toF_ok, toF_ex, toF_bad, ofO_some, ofO_none, nx_ok, cD_eq, vD_0, vD_s, vB_0, vB_o, vB_s, bopD_eq, uopD_eq, tstD_eq, asB_bl, asI_int, deref_int, deref_bl, deref_str, deref_non, deref_tup, deref_lst, deref_dic, deref_obj, deref_scr, deref_han, chD_eq, ch3D_eq, andT_eq, orT_eq, notT_eq, ifD_eq, andD_eq, orD_eq, notD_eq, nilA_eq, consA_eq, tupD_eq, lstD_eq, fldD_eq, bltD_eq, partN_eq, partS_eq, sliceD_eq, callD_eq, gateD_eq, methD_eq, isC_obj, calmD_eq, calmN_eq, calmK_obj, hanD_eq, notObj_l, notObj_t, notObj_d, setB_eq, setOB_eq, setF_eq, setOF_eq, ifB_eq, retB_eq, retN_eq, dropB_eq, nextB_eq, breakB_eq, contB_eq, raiseA_eq, augB_eq, frzB_eq, frzL_nil, frzL_cons, frzE_zl, frzE_zd, frzE_zv, frzE_zn, frzE_s, asgB_eq, asg2B_eq, parB_eq, putAll_nil, putAll_cons, asgFB_eq, nilF_eq, consV_eq, consO_eq, gN_eq, gsN_eq, gsC_eq, gT_eq, fnD_eq, fnK_nx, fnK_rt, fnK_ex, fnK_bad, inD_eq, inK_nx, inK_ex, toldD_eq,  ite_yes, ite_no, dec_yes, dec_no, plV_eq, plK_o, plK_h, plE_eq, plEK_h, wrF_slot, wrF_han, wrS_o, wrH_s, wrSU_s, wrHU_s, fldB_eq, fldU_eq, stB_eq, stAK_s, stAugB_eq, fldAugB_eq, plcD_slot, plcD_han, plS_o, mtB_eq, mthD_eq, isLst_l, appU_l, setL_l, getL_l, ixN_ok, atI_0, atI_1, atI_2, atI_3, atI_4, atI_5, atI_6, atI_7, atI_8, atI_9, atI_10, atI_11, atI_12, atI_13, atI_14, atI_15, forB_eq, rngD_eq, iterD_eq, rng1_int, rng2_int, scrO_l, scrO_s, lstO_l, tupO_l, putK_some, goK_nx, goK_ct, goK_bk, goK_rt, goK_ex, lcD_eq, wipeE_nil, wipeE_cons, yesT_eq, lcPut_some, wipB_eq, forW_eq, preB_eq, wip_nx, wip_bk, wip_ct, wip_rt, wip_ex, wip_bad, keep_t, keep_f, keep_n, asgO_s, asgK_eq, asgFK_eq, putS_nil, putS_v, putS_o, and_self, ite_self, wrS_o, wrSU_s, true_and, and_true, false_and, and_false, decide_true, decide_false, Int.reduceLT, Int.reduceLE, Int.reduceEq, Int.reduceAdd, Int.reduceSub, Int.reduceMul, Int.reduceNeg, Int.reduceDiv, Int.reduceMod, Int.reduceNe, turnF_eq,
  cut_to, cut_from, cut_both, opCut_l, opCut_t, opCut_s, opPow_int, opAdd_tup, opAdd_lst, opEq_ts, opEq_ls, opEq_st, opEq_sl, opNe_ts, opNe_ls, opNe_st, opNe_sl, opEq_ss, opNe_ss, opEq_nn, opNe_self, opEq_self, opNe_nn, opNe_lnil, opEq_lnil, opNe_is, opEq_is, opNe_si, opEq_si, opNe_bb, opEq_bb, opAdd_int, opAug_int, opSub_int, opMul_r, opMul_l, opMulI_r, opMulI_l, opDiv_int, opMod_int, opLt_int, opLe_int, opGt_int, opGe_int, opEq_int, opNe_int, min2_int, max2_int, min3_int, min4_int, opNeg_int, listO_l, listO_t, tupleO_l, tupleO_t, zipO_ll, zipO_tt, zipMO_tl, conIxD_eq, disp1T_eq, opTin_d, opTnin_d, opTix_d, setTi_d, dkT_l, enumO_l, enumLO_l, lenO_l, lenO_t, opIn_lst, opIn_tup, opNin_lst, opNin_tup, opInX_lstF, opInX_tupF, opNinX_lstF, opNinX_tupF, eqB_ss, eqB_ii, List.any_cons, List.any_nil, gSumD_eq, gAnyD_eq, anyF_nil, anyPut_some, absO_int, intO_int, intO_bl, fldO_eq, opIx_t, opIx_l,
  Bool.true_and, Bool.and_true, Bool.false_and, Bool.and_false, List.map_cons, List.map_nil, List.length_cons, List.length_nil, List.set_cons_zero, List.set_cons_succ, List.getElem?_cons_zero, List.getElem?_cons_succ, Option.map_some, Option.bind_some, decide_eq_true_eq, Bool.not_eq_true', decide_eq_false_iff_not, Bool.not_true, Bool.false_eq_true, reduceCtorEq, Bool.not_false, ite_true, ite_false, if_true, if_false, Nat.reduceAdd, Nat.reduceLeDiff, Nat.reduceLT, Nat.reduceSub, beq_self_eq_true, Nat.reduceEqDiff, reduceIte, Int.reduceToNat, Int.reducePow, List.take_zero, List.take_nil, List.drop_nil, List.drop_zero, List.take_succ_cons, List.drop_succ_cons, forF_nil, padE, List.length_append, List.replicate, List.append_nil, List.cons_append, List.nil_append])
theorem roll_eq (x : Dc) (m : Int) (t : DS) (h : 0 < m ∧ m < 18446744073709551616) : m_law_roll [.han 0, .int m] (x.d :: t) = .ok (.int (x.roll m)) ((x.next m).d :: t) := by
  obtain ⟨a, b, c⟩ := x
  unfold m_law_roll B_law_roll Dc.roll Dc.next Dc.low Dc.mix
  simp only [Dc.d]
  by_cases h2 : c = 2
  · subst h2
    walk_at "dl"
    try simp
  · by_cases h1 : c = 1
    · subst h1
      by_cases h0 : 0 < a
      · walk_at "dl"
      · walk_at "dl"
    · walk_at "dl"
      try simp [h1, h2]
def start (c : Int) : Dc := if -10 < c ∧ c < 10 then ⟨c.natAbs, 0, 2⟩ else ⟨c, 1 + c % 1009, if 10 ^ 18 ≤ c then 1 else 0⟩
theorem dice_eq (c : Int) (s : DS) : m_law_dice [.int c] s = .ok (.han s.length) (s ++ [(start c).d]) := by
  unfold m_law_dice B_law_dice start
  simp only [Dc.d]
  by_cases h : -10 < c ∧ c < 10
  · rw [if_pos h]
    walk_at "dl"
  · rw [if_neg h]
    by_cases h1 : -10 < c
    · walk_at "dl"
    · walk_at "dl"
local macro_rules | `(tactic| walk_at "dlr") => `(tactic| simp -implicitDefEqProofs (disch := first | omega | assumption | (simp only [okN, okNL, okNL_mi, D.has, hasL, flt, isI, isS, List.all_cons, List.all_nil, Bool.or_true, Bool.true_or, Bool.false_or, Bool.false_and, Bool.and_self, Bool.and_true, Bool.true_and]; done) | (simp only [List.length_cons, List.length_nil, List.length_append, List.length_map, List.length_range]; omega) | (simp only [okN, okNL, Bool.and_self, Bool.and_true, Bool.true_and]; decide +kernel) | decide +kernel | fail) only [dice_eq, lcF_cons, lcF_nil, opEq_lnil, opEqDs_d, opEqDs_s, opEqN_l, opNeN_l, List.isEmpty_cons, List.isEmpty_nil, List.isEmpty_map, lc2D_eq, asgmB_eq, opEqO_o, opNeO_o, opEqO_s, opNeO_s, gmG_eq, slB_eq, slU_eq, gmSub_eq, gmN_eq, gmC_eq, gmT_eq, seqK_nx, deref_tup0, calmDD_eq, calmDK_d, dnewD_eq, frzDB_eq, frzDK_d, opDix_i, opDix_s, opDin_i, opDin_s, opDnin_i, opDnin_s, setDi_i, setDi_s, getDi_i, getDi_s, isDic_d, getD1_eq, getD2_eq, get1O_i, get1O_s, get2O_i, get2O_s, lenDO_d, listKO_d, dicK_d, dicV_d, dicI_d, tupIO_d, dicIO_d, dictO_d, nilP_eq, consP_eq, dispD_eq, isKey_i, isKey_s, opIs_x, opIsNot_x, isN_n, isN_i, isN_s, isN_t, isN_l, untD_eq, un0_t, ix0D_eq, isTup0_t, tup0O_l, rgaD_eq, minTO_eq, enumTO_t, maxTO_eq, sortK_eq, bopTD_eq, ofO_some, seqB_eq, then_nx, then_rt, then_bk, then_ct, then_ex, then_bad, bind_ok, bind_ex, bind_bad, toF_ok, toF_ex, toF_bad, ofO_some, ofO_none, nx_ok, cD_eq, vD_0, vD_s, vB_0, vB_o, vB_s, bopD_eq, uopD_eq, tstD_eq, asB_bl, asI_int, deref_int, deref_bl, deref_str, deref_non, deref_tup, deref_lst, deref_dic, deref_obj, deref_scr, deref_han, chD_eq, ch3D_eq, andT_eq, orT_eq, notT_eq, ifD_eq, andD_eq, orD_eq, notD_eq, nilA_eq, consA_eq, tupD_eq, lstD_eq, fldD_eq, bltD_eq, partN_eq, partS_eq, sliceD_eq, callD_eq, gateD_eq, methD_eq, isC_obj, calmD_eq, calmN_eq, calmK_obj, hanD_eq, notObj_l, notObj_t, notObj_d, setB_eq, setOB_eq, setF_eq, setOF_eq, ifB_eq, retB_eq, retN_eq, dropB_eq, nextB_eq, breakB_eq, contB_eq, raiseA_eq, augB_eq, frzB_eq, frzL_nil, frzL_cons, frzE_zl, frzE_zd, frzE_zv, frzE_zn, frzE_s, asgB_eq, asg2B_eq, parB_eq, putAll_nil, putAll_cons, asgFB_eq, nilF_eq, consV_eq, consO_eq, gN_eq, gsN_eq, gsC_eq, gT_eq, fnD_eq, fnK_nx, fnK_rt, fnK_ex, fnK_bad, inD_eq, inK_nx, inK_ex, toldD_eq,  ite_yes, ite_no, dec_yes, dec_no, plV_eq, plK_o, plK_h, plE_eq, plEK_h, wrF_slot, wrF_han, wrS_o, wrH_s, wrSU_s, wrHU_s, fldB_eq, fldU_eq, stB_eq, stAK_s, stAugB_eq, fldAugB_eq, plcD_slot, plcD_han, plS_o, mtB_eq, mthD_eq, isLst_l, appU_l, setL_l, getL_l, ixN_ok, atI_0, atI_1, atI_2, atI_3, atI_4, atI_5, atI_6, atI_7, atI_8, atI_9, atI_10, atI_11, atI_12, atI_13, atI_14, atI_15, forB_eq, rngD_eq, iterD_eq, rng1_int, rng2_int, scrO_l, scrO_s, lstO_l, tupO_l, putK_some, goK_nx, goK_ct, goK_bk, goK_rt, goK_ex, lcD_eq, wipeE_nil, wipeE_cons, yesT_eq, lcPut_some, wipB_eq, forW_eq, preB_eq, wip_nx, wip_bk, wip_ct, wip_rt, wip_ex, wip_bad, keep_t, keep_f, keep_n, asgO_s, asgK_eq, asgFK_eq, putS_nil, putS_v, putS_o, and_self, ite_self, wrS_o, wrSU_s, true_and, and_true, false_and, and_false, decide_true, decide_false, Int.reduceLT, Int.reduceLE, Int.reduceEq, Int.reduceAdd, Int.reduceSub, Int.reduceMul, Int.reduceNeg, Int.reduceDiv, Int.reduceMod, Int.reduceNe, turnF_eq,
  cut_to, cut_from, cut_both, opCut_l, opCut_t, opCut_s, opPow_int, opAdd_tup, opAdd_lst, opEq_ts, opEq_ls, opEq_st, opEq_sl, opNe_ts, opNe_ls, opNe_st, opNe_sl, opEq_ss, opNe_ss, opEq_nn, opNe_self, opEq_self, opNe_nn, opNe_lnil, opEq_lnil, opNe_is, opEq_is, opNe_si, opEq_si, opNe_bb, opEq_bb, opAdd_int, opAug_int, opSub_int, opMul_r, opMul_l, opMulI_r, opMulI_l, opDiv_int, opMod_int, opLt_int, opLe_int, opGt_int, opGe_int, opEq_int, opNe_int, min2_int, max2_int, min3_int, min4_int, opNeg_int, listO_l, listO_t, tupleO_l, tupleO_t, zipO_ll, zipO_tt, zipMO_tl, conIxD_eq, disp1T_eq, opTin_d, opTnin_d, opTix_d, setTi_d, dkT_l, enumO_l, enumLO_l, lenO_l, lenO_t, opIn_lst, opIn_tup, opNin_lst, opNin_tup, opInX_lstF, opInX_tupF, opNinX_lstF, opNinX_tupF, eqB_ss, eqB_ii, List.any_cons, List.any_nil, gSumD_eq, gAnyD_eq, anyF_nil, anyPut_some, absO_int, intO_int, intO_bl, fldO_eq, opIx_t, opIx_l,
  Bool.true_and, Bool.and_true, Bool.false_and, Bool.and_false, List.map_cons, List.map_nil, List.length_cons, List.length_nil, List.set_cons_zero, List.set_cons_succ, List.getElem?_cons_zero, List.getElem?_cons_succ, Option.map_some, Option.bind_some, decide_eq_true_eq, Bool.not_eq_true', decide_eq_false_iff_not, Bool.not_true, Bool.false_eq_true, reduceCtorEq, Bool.not_false, ite_true, ite_false, if_true, if_false, Nat.reduceAdd, Nat.reduceLeDiff, Nat.reduceLT, Nat.reduceSub, beq_self_eq_true, Nat.reduceEqDiff, reduceIte, Int.reduceToNat, Int.reducePow, List.take_zero, List.take_nil, List.drop_nil, List.drop_zero, List.take_succ_cons, List.drop_succ_cons, forF_nil, padE, List.length_append, List.replicate, List.append_nil, List.cons_append, List.nil_append])
theorem rounds_eq (ns : List Int) : ∃ x : Dc, m_law_rounds [.scr ns, .int 1] [] = .ok (.lst [.han 0]) [x.d] := by
  cases ns with
  | nil =>
    refine ⟨start 0, ?_⟩
    unfold m_law_rounds B_law_rounds
    walk_at "dlr"
  | cons n ns =>
    refine ⟨start n, ?_⟩
    have h : okN 9 (.lst [.int n]) = true := by simp [okN, okNL]
    have h2 := opEq_lnil h
    unfold m_law_rounds B_law_rounds
    walk_at "dlr"
end DR
set_option Elab.async false
set_option linter.all false
set_option maxRecDepth 100000
set_option maxHeartbeats 4000000
namespace DL
open PySem PySem.Spec PyProof PyProof.Rows L2
/-- what such an __init__ is -/
structure BtD (K : PySem.W.Frag) (file : Str) (C fI : Addr) : Prop where
  ex : ∃ (oc : Value) (od : Option Addr) (osl : Array (Option Value)) (nm qual : Str) (q1 q2 p0 p1 p2 p3 p4 p5 p6 p7 p8 p9 : Pos) (j : Nat) (msg : Str) (scope : Scope) (kV doc pm ct : Value) (an : Option Addr) (cda cc : Addr)
    (oc2 : Value) (od2 : Option Addr) (vs2 : Array Value) (sl2 : Array (Option Value)) (tf : Tok) (oc3 : Value) (od3 : Option Addr) (sl3 : Array (Option Value)),
    K.lookup fI = some ⟨oc, od, .func (PySem.W.ksFn nm qual ⟨[], [⟨"self", none, q1⟩, ⟨"row", none, q2⟩], none, [], [], none, []⟩
      [.Expr (.Call (.Attribute (.Call (.Name "super" p0) [] [] p1) "__init__" p2) [.Constant (.str msg) j p3] [] p4) p5, .Assign [.Attribute (.Name "self" p6) "row" p7] (.Name "row" p8) p9] scope .none kV doc pm an (.ref cda) ct cc), osl⟩ ∧
    PySem.W.codeIn K (.ref cda) qual = true ∧ scope.kind = .function ∧ scope.isCoroutine = false ∧ scope.isGenerator = false ∧ (∀ x ∈ scope.names, x.2 ≠ .cell) ∧ scope.names.lookup ("super" : Str) = some .globalImplicit ∧
    scope.names.lookup ("__class__" : Str) = some .free ∧ scope.names.lookup ("self" : Str) = some .local ∧ scope.names.lookup ("row" : Str) = some .local ∧
    K.lookup cda = some ⟨oc2, od2, .fields vs2, sl2⟩ ∧ vs2[2]? = some (.str file tf) ∧ (p2.endLine == p4.line) = true ∧ K.lookup cc = some ⟨oc3, od3, .cell (some (.ref C)), sl3⟩
structure BtC (K : PySem.W.Frag) (C fI : Addr) : Prop where
  oex : OexC K C
  ini : PySem.W.findIn K (.ref C) "__init__" = some (some (.ref fI))
  tI : PySem.W.typeIn K (.ref fI) = some (.type "function")
  sub : PySem.W.mroIn K C (.ref C) = some true
  thp : PySem.W.nsIn K cStatics "thirdparty.any" = some none
  sup : PySem.W.ks_superIn K C C "__init__" = some (some (.builtin "ValueError.__init__"))
  sV : PySem.W.subIn K (.ref C) (.type "ValueError") = some true
  inV : PySem.W.excInitIn K C [.type "ValueError", .type "Exception", .type "BaseException", .type "object"] "ValueError.__new__" = true
  row : PySem.W.findIn K (.ref C) "row" = some none
def spBt (C : Addr) : Sp := fun vs H Q _ => ∃ (a : Addr) (v : V), vs = [.ref a, v] ∧ H a = some (exo a C none) ∧ ∀ dx, H dx = none → dx ≠ a → Q .non (upd (upd H dx (exd dx [("row", v)])) a (exo a C (some dx)))
theorem ev_meth {o e : Expr} {name : Str} {apos pos : Pos} {env : PySem.Env} (hline : (apos.endLine == pos.line) = true) (hs : backTo pos (starEach [e] env) = [(false, eval e env)]) :
  ∃ pl, eval (.Call (.Attribute o name apos) [e] [] pos) env = (do
      let ov ← attributeBase o name env (eval o env)
      standAt apos.atName
      let (f, first) ← holding [ov] (getMethod ov name pl)
      callWith pos f first (backTo pos (starEach [e] env)) []) := by
  have hform : methodCallForm (([e] : List Expr).length + ([] : List Keyword).length) (backTo pos (starEach [e] env)) (backToKw pos (keywordEach [] env)) = true := by rw [hs]; rfl
  refine ⟨?_, ?_⟩
  rotate_left
  rw [arm_eval_Call]
  unfold methodCall calleeOf methodCallPos
  simp only [hform, hline, Bool.not_true, Bool.or_true, if_true, pure_bind]
  rfl
section
variable {P : Program} {w : World} {K : PySem.W.Frag} {mg : Str → Option Value} {base : Heap} {CX : CXT} {file : Str} {C fI : Addr}
theorem bt_run (B : BtD K file C fI) (T : BtC K C fI) (hP : (P.main.file : Str) = file) (htop : (P.main.scope.names.lookup ("super" : Str)).isSome = false) (mgs : mg "super" = none) :
    ∃ fd, Binds K fd ["self", "row"] [] ∧ ∀ (CX : CXT) (A : Around) (outer : List PySem.Env) (s : Shared) (H : Hp) (args : Args) (us : List Value) (vs : List V) (Q : VK) (E : XK), A.depth < recursionLimit → Env0 P w K mg base A outer s H → BindsTo s fd args ((["self", "row"] : List Str).zip us) → Vals vs us → spBt C vs H Q E →
      codeAny (model P w) A (.call (.ref fI) args) (CR CX outer P w H s Q E) s := by
  obtain ⟨oc, od, osl, nm, qual, q1, q2, p0, p1, p2, p3, p4, p5, p6, p7, p8, p9, j, msg, ⟨kd, nms, gn, co, mo⟩, kV, doc, pm, ct, an, cda, cc, oc2, od2, vs2, sl2, tf, oc3, od3, sl3, lk, hcd, s1, s2, s3, s4, s5, s6, s7, s8, lc, hv2, hline, lcc⟩ := B.ex
  have s1 : kd = .function := s1
  have s2 : co = false := s2
  have s3 : gn = false := s3
  subst s1 s2 s3
  have s4 : ∀ x ∈ nms, x.2 ≠ .cell := s4
  have s5 : nms.lookup ("super" : Str) = some .globalImplicit := s5
  have s6 : nms.lookup ("__class__" : Str) = some .free := s6
  have s7 : nms.lookup ("self" : Str) = some .local := s7
  have s8 : nms.lookup ("row" : Str) = some .local := s8
  have hb : Binds K (PySem.W.ksFn nm qual ⟨[], [⟨"self", none, q1⟩, ⟨"row", none, q2⟩], none, [], [], none, []⟩
      [.Expr (.Call (.Attribute (.Call (.Name "super" p0) [] [] p1) "__init__" p2) [.Constant (.str msg) j p3] [] p4) p5, .Assign [.Attribute (.Name "self" p6) "row" p7] (.Name "row" p8) p9] ⟨.function, nms, false, false, mo⟩ .none kV doc pm an (.ref cda) ct cc) ["self", "row"] [] := .all fun us hl => match us, hl with
    | [_, _], _ => rfl
  refine ⟨_, hb, fun CX A outer s H args us vs Q E hr e0 hbd r hsp => ?_⟩
  obtain ⟨a, v, rfl, ha, hq⟩ := hsp
  obtain ⟨u0, u1, rfl, r0, r1⟩ : ∃ u0 u1, us = [u0, u1] ∧ RelV (.ref a) u0 ∧ RelV v u1 := by
    cases r with
    | cons r1 rs =>
      cases rs with
      | cons r2 rs2 =>
        cases rs2
        exact ⟨_, _, rfl, r1, r2⟩
  obtain rfl : u0 = Value.ref a := r0
  obtain ⟨t1, ho⟩ := exo_at e0.hok ha
  obtain ⟨hp, g, d, tk, os⟩ := s
  have bk : ∀ b o, base.get? b = some o → hp.get? b = some o ∧ H b = none := e0.bs
  have KX : K.In hp := e0.mod.kin.keeps fun b o e => (bk b o e).1
  have lim : hp.NoLimit := e0.mod.nolimit.keeps fun b o e => (bk b o e).1
  have nb : ∀ {b : Addr} {o : Obj}, base.get? b = some o → b ≠ a := fun {b o} e z => by
    have := (bk b o e).2
    rw [z, ha] at this
    cases this
  have hdl : ∀ b o, base.get? b = some o → (PySem.W.hideAll hp [a]).get? b = some o := fun b o e => PySem.W.hideAll_get [a] (bk b o e).1 (by simpa using nb e)
  have X0 : K.In (PySem.W.hideAll hp [a]) := e0.mod.kin.keeps hdl
  obtain ⟨mb, hmb, hblt⟩ := e0.mod.blt
  have Tg : (PySem.W.hideAll hp [a]).Ns mainGlobals mg := e0.mod.glob.keeps hdl
  have Tb : (PySem.W.hideAll hp [a]).Ns builtinsNs mb := hmb.keeps hdl
  refine PySem.ks_codeAny_call_defAt (fd := PySem.W.ksFn nm qual _ _ ⟨.function, nms, false, false, mo⟩ .none kV doc pm an (.ref cda) ct cc) hr (KX _ _ lk) rfl lim (PySem.W.codeRec_of KX hcd) rfl hbd s4 (fun x hx => ?_) (fun h1 hns k1 => ?_) rfl rfl rfl
  · rcases List.mem_cons.mp hx with rfl | hx
    · exact s7
    · rcases List.mem_cons.mp hx with rfl | hx
      · exact s8
      · cases hx
  have la : a < hp.objs.size := Heap.lt_size ho
  have F : Fr (PySem.W.hideAll hp [a]) hp.objs.size h1 (fun x => ([(("self" : Str), Value.ref a), (("row" : Str), u1)] : List (Str × Value)).reverse.lookup x) := ⟨hns, fun b o e => k1 b o (PySem.W.of_hideAll _ e), Nat.le_of_eq (PySem.W.hideAll_size _ _)⟩
  have N : News (PySem.W.hideAll hp [a]) hp.objs.size h1 [(a, PySem.W.excObj C t1 none .none)] := fun p hp2 => by
    rcases List.mem_cons.mp hp2 with rfl | z
    · exact ⟨k1 _ _ ho, Nat.ne_of_lt la, PySem.W.hideAll_none _ (by simp)⟩
    · cases z
  obtain ⟨nm2, qn2, N2, bs2, bm2, sn2, sb2, ab2, col2, dd2, c0, c1, c2, c3, c5, hC, hbm⟩ := T.oex.cls
  have hcl : PySem.W.clsIn K C = some { name := nm2, bases := bs2, mro := .ref C :: bm2, ns := N2, qualname := qn2, hasDict := true, slotNames := sn2, subclasses := sb2, abstract := ab2, collection := col2, hasDel := false } := by unfold PySem.W.clsIn; rw [hC] <;> rfl
  have hself : (fun x => ([(("self" : Str), Value.ref a), (("row" : Str), u1)] : List (Str × Value)).reverse.lookup x) ("self" : Str) = some (.ref a) := by rfl
  have hrow : (fun x => ([(("self" : Str), Value.ref a), (("row" : Str), u1)] : List (Str × Value)).reverse.lookup x) ("row" : Str) = some u1 := by rfl
  generalize (fun x => ([(("self" : Str), Value.ref a), (("row" : Str), u1)] : List (Str × Value)).reverse.lookup x) = m at *
  have X1 : K.In h1 := X0.keeps F.keep
  have gC := X1 _ _ hC
  have ga : h1.get? a = some (PySem.W.excObj C t1 none .none) := k1 _ _ ho
  obtain ⟨pl, he⟩ := ev_meth (o := .Call (.Name "super" p0) [] [] p1) (e := .Constant (.str msg) j p3) (name := "__init__") (env := PySem.W.ksEnv qual ⟨.function, nms, false, false, mo⟩ hp.objs.size fI (.ref cda) cc) hline rfl
  refine PySem.ks_wpAt_execs_cons (PySem.ks_wpAt_Expr_any (PySem.ks_wpAt_MethodCall (pl := pl) ?_ he))
  refine PySem.ks_wpAt_super_base (env := PySem.W.ksEnv qual ⟨.function, nms, false, false, mo⟩ hp.objs.size fI (.ref cda) cc) s5 s6 (by decide) rfl (X1 _ _ lk) rfl rfl rfl (X1 _ _ lc) rfl hv2 (by rw [hP]; simp) htop ?_
  refine PySem.W.ks_loadName_global (env := PySem.W.ksEnv qual ⟨.function, nms, false, false, mo⟩ hp.objs.size fI (.ref cda) cc) rfl s5 (PySem.Calls.loadGlobal_builtin (env := PySem.W.ksEnv qual ⟨.function, nms, false, false, mo⟩ hp.objs.size fI (.ref cda) cc) (Tg.keeps F.keep) mgs (Tb.keeps F.keep) ((hblt _ (by decide +kernel)).trans (by first | boot_by_name | rfl | kernel_rfl)) ⟨rfl, ?_⟩)
  refine wpAny_loadName_free (env := PySem.W.ksEnv qual ⟨.function, nms, false, false, mo⟩ hp.objs.size fI (.ref cda) cc) rfl s6 rfl ⟨_, X1 _ _ lcc, rfl⟩ ?_
  refine wpAny_loadName_local (env := PySem.W.ksEnv qual ⟨.function, nms, false, false, mo⟩ hp.objs.size fI (.ref cda) cc) rfl s7 F.ns hself ?_
  refine PySem.ks_wpAny_isType_cls gC rfl ⟨rfl, ?_⟩
  refine PySem.ks_wpAny_call_super gC rfl ga rfl (fun c e => by cases e) (PySem.W.looks_mroIn X1 T.sub) (fun h2 e2 k2 => ?_)
  obtain ⟨F2, N2, l2⟩ := PySem.W.ks_newsPush (s := ⟨h1, g, d, tk + 2, os⟩) F N rfl e2 k2
  have ga2 := (N2 (a, PySem.W.excObj C t1 none .none) (by simp)).1
  refine PySem.W.kxs_method (x := a) (C := C) (D := C) (so := h1.objs.size) (s := ⟨h2, g, d, _, os⟩) PySem.W.kxs_ValueError F2 X0 N2 (by simp) (PySem.W.InstAt.of_exc0 N2 (c2 := .none) (t := t1) (C := C) (by simp)) T.thp T.sup T.sV (by decide) (fun q h3 F3 N3 l3 => ?_)
  refine PySem.W.kxs_callWith1 (i := "ValueError.__init__") (x := a) N3 (by simp) ?_
  show wpAny _ _ (spliced ((false, eval (.Constant (.str msg) j p3) _) :: [])) _ _ _
  refine Calls.spliced_cons (Calls.Constant_str (Calls.spliced_nil ⟨PySem.W.kxs_at N3 (by simp), ?_⟩))
  refine PySem.W.kxs_call (C := C) F3 X0 N3 PySem.F.excBase_ValueError T.inV (by simp) (.tail (Nat.ne_of_gt (l3 (a, PySem.W.excObj C t1 none .none) (by simp))) (.tail (Nat.ne_of_gt (l2 (a, PySem.W.excObj C t1 none .none) (by simp))) (.head (by simp)))) (by rw [sizeLine_eq]; show 1 ≤ _; decide) (fun t4 h4 F4 N4 l4 => ?_)
  refine PySem.ks_wpAt_execs_cons (PySem.ks_wpAt_Assign_Attr (PySem.wpAt_of_wpAny ?_))
  refine wpAny_Name (wpAny_loadName_local (env := PySem.W.ksEnv qual ⟨.function, nms, false, false, mo⟩ hp.objs.size fI (.ref cda) cc) rfl s8 F4.ns hrow ?_) (by decide)
  refine wpAny_Name (wpAny_loadName_local (env := PySem.W.ksEnv qual ⟨.function, nms, false, false, mo⟩ hp.objs.size fI (.ref cda) cc) rfl s7 F4.ns hself ?_) (by decide)
  have ga4 := (N4 (a, PySem.W.excObj C t4 none .none) (by simp)).1
  have k4 : ∀ b o, b ≠ a → hp.get? b = some o → h4.get? b = some o := fun b o hb e => F4.keep b o (PySem.W.hideAll_get [a] e (by simpa using hb))
  refine PySem.W.set_plain (X0.keeps F4.keep) (PySem.W.InstAt.of_exc0 (x := a) (C := C) N4 (c2 := .none) (t := t4) (by simp)) T.oex.sa ?_
  refine PySem.HandSPX.exc_osa (X0.keeps F4.keep) ga4 hcl (show PySem.HandSPX.refsVE (.ref C :: bm2) = true from hbm) rfl T.row (fun h' tk' dx k dn dne hx hn => ?_)
  have lt4 : hp.objs.size < h4.objs.size := F4.ns.lt
  have hnd : H dx = none := e0.hok.fresh (Nat.le_trans (Nat.le_of_lt lt4) dn)
  have kk : ∀ b o, b ≠ a → hp.get? b = some o → h'.get? b = some o := fun b o hb e => k b o hb (k4 b o hb e)
  have nd : ∀ {b : Addr} {o : Obj}, hp.get? b = some o → b ≠ dx := fun {b o} q => Nat.ne_of_lt (Nat.lt_of_lt_of_le (Heap.lt_size q) (Nat.le_trans (Nat.le_of_lt lt4) dn))
  have na : ∀ {b : Addr}, H b = none → b ≠ a := fun {b} n z => by
    rw [z, ha] at n
    cases n
  have Un1 : Un (frs outer) [] H (upd (upd H dx (exd dx [("row", v)])) a (exo a C (some dx))) hp h' := {
    keep := fun b o q n _ _ => kk b o (na n) q
    slot := fun b o q n _ _ => ⟨o.slots, kk b o (na n) q⟩
    free := fun b o q n _ => by rw [upd_ne (na n), upd_ne (nd q)]; exact n
    there := fun b o q _ => by
      by_cases hb : b = a
      · exact ⟨_, by rw [hb]; exact hx⟩
      · exact ⟨o, kk b o hb q⟩
    tups := fun b xs q => by rw [upd_ne (at_ne ha q exo_tup), upd_ne (ne_of_none q hnd)]; exact q
    frzs := fun b o v q => by rw [upd_ne (at_ne ha q exo_frz), upd_ne (ne_of_none q hnd)]; exact q
    tbls := fun b ps q => ⟨#[], by rw [upd_ne (at_ne ha q exo_tbl), upd_ne (ne_of_none q hnd), q]; simp⟩ }
  have hok2 : HOk P w (upd (upd H dx (exd dx [("row", v)])) a (exo a C (some dx))) h' := fun b o q => by
    by_cases hb : b = a
    · subst hb
      rw [upd_same] at q
      cases q
      exact exo_ok hx
    · rw [upd_ne hb] at q
      by_cases hd : b = dx
      · subst hd
        rw [upd_same] at q
        cases q
        exact exd_ok hn (relO_put (fs := []) r1 fun g => True.intro)
      · rw [upd_ne hd] at q
        exact (e0.hok b o q).stay (fun c v hc z => kk c v (by
            rcases hc with hc | hc
            · rw [hc]
              exact hb
            · exact at_ne ha hc exo_own) z)
          (fun c hc => by rw [upd_ne (at_ne ha hc exo_own), upd_ne (ne_of_none hc hnd)]; exact hc) (fun c xs hc => by rw [upd_ne (at_ne ha hc exo_tup), upd_ne (ne_of_none hc hnd)]; exact hc)
  have fin : CE outer P w H ⟨hp, g, d, tk, os⟩ Q .none ⟨h', g, d, tk', os⟩ := ⟨.non, _, rfl, e0.bare, Un1, hok2, rfl, hq dx hnd dne⟩
  exact PySem.wpAt_of_wpAny (wpAny_pure fin)
theorem bt_len {vs : List V} {H : Hp} {Q : VK} {E : XK} (h : spBt C vs H Q E) : vs.length = (["self", "row"] : List Str).length := by
  obtain ⟨a, v, rfl, _⟩ := h
  rfl
theorem bt_fn (B : BtD K file C fI) (T : BtC K C fI) (hP : (P.main.file : Str) = file) (htop : (P.main.scope.names.lookup ("super" : Str)).isSome = false) (mgs : mg "super" = none) :
    ∃ fd, Binds K fd ["self", "row"] [] ∧ (∀ CX : CXT, FnOk P w K mg base CX 1 fI fd ["self", "row"] (spBt C)) ∧ ∀ CX : CXT, L2H.FnH P w K mg base CX 1 fI fd ["self", "row"] (spBt C) := by
  obtain ⟨fd, hb, h⟩ := bt_run (w := w) (base := base) B T hP htop mgs
  exact ⟨fd, hb, fun CX => ⟨fun _ _ _ _ z => bt_len z, fun A outer s H args us vs Q E hr => h CX A outer s H args us vs Q E hr.depth⟩, fun CX => ⟨fun _ _ _ _ z => bt_len z, fun A outer s H args us vs Q E p hr _ _ => h CX A outer s H args us vs Q E hr.depth⟩⟩
end
end DL
set_option Elab.async false
set_option linter.all false
set_option maxRecDepth 100000
set_option maxHeartbeats 4000000
namespace DL
open PySem PySem.Spec PyProof PyProof.Rows L2
/-- all that is asked of such a class -/
structure ExcR (P : Program) (w : World) (K : PySem.W.Frag) (mg : Str → Option Value) (base : Heap) (M : Mp) (c : Nat) (x : Str) : Prop where
  g : mg x = some (.ref (M.exc c))
  r : M.row = "row"
  t : ∃ fI fd, BtC K (M.exc c) fI ∧ Binds K fd ["self", "row"] [] ∧ (∀ CX : CXT, FnOk P w K mg base CX 1 fI fd ["self", "row"] (spBt (M.exc c))) ∧ ∀ CX : CXT, L2H.FnH P w K mg base CX 1 fI fd ["self", "row"] (spBt (M.exc c))
section
variable {X : Cx} {W : WX} {M : Mp} {c : Nat} {x : Str} {e : Expr} {es : List Expr} {ta : TA} {p pos pos2 : Pos}
theorem pmk_oexN {CX : CXT} {C fI : Addr} {k : Nat} {fd : FuncData} {ps : List Str} {sp : Sp} (T : OexC X.K C) (iC : PySem.W.findIn X.K (.ref C) "__init__" = some (some (.ref fI))) (tI : PySem.W.typeIn X.K (.ref fI) = some (.type "function"))
    (F1 : FnOk X.prog X.w X.K X.mg X.base CX k fI fd ps sp) (hr : Room (k + 1) X.A) (hb : Binds X.K fd ps []) (hx : Passes CX X (fun _ _ _ => False)) (hg : Gl X x) (hm : X.mg x = some (.ref C)) (ha : PA X (e :: es) ta)
    (hdb : (x == ("__debug__" : Str)) = false := by decide) (he : starEach (e :: es) X.env = (false, eval e X.env) :: starEach es X.env := by rfl) (hpl : (backTo pos (starEach es X.env)).any (·.1) = false := by rfl) :
    L2N.PMk X (.Call (.Name x p) (e :: es) [] pos) (tMkO C sp [] ta) := by
  intro pins s σ H Q I h
  obtain ⟨nm, q, N, bs, bm, sn, sub, ab, col, dd, k0, k1, k2, k3, k5, hC, hbm⟩ := T.cls
  refine wpAny_Call_Name_kw (ld_glob I hg hm ?_ hdb)
  refine PySem.W.callWith_K (h₀ := X.base) I.ok.mod.kin T.kC (thn (ha.run pos pins s σ H _ I h) fun us s1 ⟨vs, H1, I1, r1, hz, q1⟩ => ⟨I1.kIn, ?_⟩) he hpl
  show wpAny _ _ (call (.ref C) us) _ _ _
  obtain ⟨hp, g, dr, tk, os⟩ := s1
  have hsz : hp.objs.size ≤ hp.objs.size + 1 := Nat.le_succ _
  have hn : H1 (hp.objs.size + 1) = none := I1.hok.fresh hsz
  have hq := q1 (hp.objs.size + 1) hn
  rw [List.append_nil] at hq
  have kk : ∀ b o, hp.get? b = some o → ((hp.push (PySem.W.kdv_tup us)).push (PySem.HandSPX.excO C hp.objs.size)).get? b = some o := fun b o e => Heap.get?_push_of_some _ (Heap.get?_push_of_some _ e)
  have hget : ((hp.push (PySem.W.kdv_tup us)).push (PySem.HandSPX.excO C hp.objs.size)).get? (hp.objs.size + 1) = some (PySem.HandSPX.excO C hp.objs.size) := by heap_get
  have I2 : Inv X pins σ (upd H1 (hp.objs.size + 1) (exo (hp.objs.size + 1) C none)) ⟨(hp.push (PySem.W.kdv_tup us)).push (PySem.HandSPX.excO C hp.objs.size), g, dr, tk, os⟩ :=
    I1.laid (t' := tk) (a := hp.objs.size + 1) (o := exo (hp.objs.size + 1) C none) (h' := (hp.push (PySem.W.kdv_tup us)).push (PySem.HandSPX.excO C hp.objs.size)) kk hsz (exo_ok hget)
  have r2 : Vals (V.ref (hp.objs.size + 1) :: vs) (Value.ref (hp.objs.size + 1) :: us) := .cons rfl r1
  have hl : (Value.ref (hp.objs.size + 1) :: us ++ []).length = ps.length := by
    have e := r2.length
    rw [F1.len _ _ _ _ hq] at e
    rw [List.append_nil]
    exact e.symm
  have hus : us.length ≤ sizeLine := by
    rw [← Paired.length r1, sizeLine_eq]
    omega
  have b2 := hb _ (Value.ref (hp.objs.size + 1) :: us) I2.kIn hl
  rw [List.append_nil] at b2
  refine wpAny_call (PySem.HandSPX.call_own PySem.F.excBase_ValueError (fun Y => PySem.HandSPX.refsVE_contains Y bm hbm) (I1.kIn _ _ hC) (PySem.W.looks_findIn I1.kIn iC) (fun self => PySem.W.bind_fn I1.kIn self tI) hus
    (codeAny_mono (F1.run _ X.stack _ _ ⟨Value.ref (hp.objs.size + 1) :: us, []⟩ (Value.ref (hp.objs.size + 1) :: us) _ _ (fun _ _ _ => False) (hr.make C us []) (I2.env0.make C us []) b2 r2 hq) fun r s' hq' => ?_))
  cases r with
  | error er => exact hx pins σ _ _ er s' I2 hq'
  | ok fl =>
    cases fl with
    | ret u =>
      obtain ⟨v, H2, os2, bare2, un2, hok2, rv, ev, d, fs, ea, ed, hd1, q2⟩ := hq'
      subst ev
      obtain ⟨h2, g2, d2, t2, os'⟩ := s'
      obtain ⟨t0, G, J, kG, ge, hoe, na⟩ := mk_end0 (d2 := d2) (t2 := t2) I1 hsz kk un2 hok2 os2 bare2 ea ed hd1
      refine ⟨rv, hp.objs.size + 1, _, _, ⟨G, g2, d2, t2, os'⟩, _, .ref C, some d, rfl, J, kG, ge, hoe, ⟨rfl, rfl, fun vs hv => ?_⟩, rfl, rfl, na, rfl, bare2, raises_own T.exC T.tyC, q2⟩
      cases hv
      rfl
    | next => exact False.elim hq'
    | brk => exact False.elim hq'
    | cont => exact False.elim hq'
def raiseR (c : Nat) (g : Env → DS → R (List D)) : Env → DS → F := fun η s => (g η s).toF η fun ds s1 => .ex c ds η s1
theorem upd_row {H1 : Hp} {a dx : Addr} {o1 o2 o3 o4 : HO} (ha : H1 a = none) (hne : dx ≠ a) : upd (del (upd (upd (upd H1 a o1) dx o2) a o3) a) dx o4 = upd H1 dx o4 := by
  funext b
  by_cases hb : b = dx
  · subst hb
    rw [upd_same, upd_same]
  · rw [upd_ne hb, upd_ne hb]
    by_cases hba : b = a
    · subst hba
      rw [del_same, ha]
    · rw [del_ne hba, upd_ne hba, upd_ne hb, upd_ne hba]
/-- what is asked of the run: the one argument is handed on -/
theorem raiseR_sem {K : PySem.W.Frag} {g : Env → DS → R (List D)} {ta : TA} {Wx : WX} {C : Addr} (hC : C = M.exc c) (hrow : M.row = "row") (h1 : ∀ η s ds s', g η s = .ok ds s' → ds.length = 1) (ka : AEx M X W ta g) :
    SEx M X W (fun _ σ H => tMkO C (spBt C) [] ta σ H fun cls d H' => W cls d σ H') (raiseR c g) := by
  subst hC
  intro A σ H G hs own η s En I hp
  refine ka A σ H G hs own η s _ I ?_
  have hp2 := FPost.lift I hp
  cases q : g η s with
  | ok ds s1 =>
    rw [q] at hp2
    intro G1 hs1 H1 S1 J1 vs hvs
    have l1 := h1 η s ds s1 q
    obtain ⟨d, rfl⟩ : ∃ d, ds = [d] := List.length_eq_one_iff.mp l1
    obtain ⟨v, vr, rfl, rv, rn⟩ := repL_cons.mp hvs
    cases repL_nil.mp rn
    refine ⟨by show 1 ≤ 1000; decide, fun a na => ⟨a, v, rfl, upd_same, fun dx hdx hne => ?_⟩⟩
    have hdx1 : H1 dx = none := by rwa [upd_ne hne] at hdx
    refine ⟨rfl, dx, _, upd_same, by rw [upd_ne hne, upd_same], hdx1, ?_⟩
    rw [upd_row na hne]
    obtain ⟨S2, J2⟩ := J1.laid (o := .xd [("row", v)]) hdx1
    exact hp2 G1 hs1 H1 S1 J1 σ _ _ hs1 own (.ref (M.exc c)) (some dx) ((I.step S1 J1).step S2 J2) ⟨rfl, .inr ⟨d, v, dx, rfl, rv.mono S2.gg S2.hp, rfl, by rw [upd_same, hrow]⟩⟩
  | ex c p s1 => rw [q] at hp2; exact hp2
  | bad => rw [q] at hp2; exact hp2
theorem ds_raiseRN {a : Expr} {g : Env → DS → R (List D)} (E : ExcR X.prog X.w X.K X.mg X.base M c x) (tk : L2N.Takes X W) (hc : X.calm = true) (hr : Room 2 X.A) (ha : DA M X W [a] g) (hg : Gl X x := by rfl)
    (hdb : (x == ("__debug__" : Str)) = false := by decide) (he : starEach [a] X.env = (false, eval a X.env) :: starEach [] X.env := by rfl) (hpl : (backTo pos (starEach [] X.env)).any (·.1) = false := by rfl)
    (h1 : ∀ η s ds s', g η s = .ok ds s' → ds.length = 1 := by exact one_len) :
    DSt M X W (.Raise (some (.Call (.Name x p) [a] [] pos)) none pos2) (raiseR c g) := by
  obtain ⟨t, pa, h⟩ := ha.ex
  obtain ⟨fI, fd, T, hb, F1, _⟩ := E.t
  exact ⟨_, L2N.ps_raise hc tk (pmk_oexN T.oex T.ini T.tI (F1 CX0) hr hb pass0 hg E.g pa hdb he hpl), raiseR_sem (K := X.K) (Wx := W) rfl E.r h1 h⟩
end
theorem raiseR_eq {c : Nat} {g : Env → DS → R (List D)} {η : Env} {s : DS} : raiseR c g η s = (g η s).toF η fun ds s1 => .ex c ds η s1 := rfl
end DL
set_option Elab.async false
set_option linter.all false
set_option maxRecDepth 100000
set_option maxHeartbeats 4000000
namespace DL
open PySem PySem.Spec PyProof PyProof.Rows L2
theorem oexB_ok {K : PySem.W.Frag} {C : Addr} (h : oexB K C = true) : OexC K C := by
  unfold oexB at h
  simp only [Bool.and_eq_true] at h
  obtain ⟨h1, h2, h3, h4, h5⟩ := h
  refine ⟨?_, He.eqO_ok h2, of_decide_eq_true h3, of_decide_eq_true h4, h5⟩
  split at h1
  · rename_i T dd cd sl hl
    simp only [Bool.and_eq_true] at h1
    obtain ⟨hT, h1⟩ := h1
    have hT := of_decide_eq_true hT
    subst hT
    split at h1
    · rename_i C' bm k0 k1 k2 k3 n k5 hm hs
      simp only [Bool.and_eq_true] at h1
      obtain ⟨a1, a2, a3, a4, a5⟩ := h1
      have c1 := of_decide_eq_true a1
      have c2 := of_decide_eq_true a2
      have c3 := of_decide_eq_true a3
      have c4 := of_decide_eq_true a4
      clear a1 a2 a3 a4
      subst c1; subst c2
      obtain ⟨nm, bs, mro, ns, qn, hd, sn, sub, ab, col, del⟩ := cd
      dsimp only at hm c3 c4
      subst hm; subst c3; subst c4
      have hsl : sl = #[k0, k1, k2, k3, some (.builtin "ValueError.__new__"), k5] := by
        obtain ⟨l⟩ := sl
        simp only at hs
        rw [hs]
      subst hsl
      exact ⟨nm, qn, ns, bs, bm, sn, sub, ab, col, dd, k0, k1, k2, k3, k5, hl, a5⟩
    · cases h1
  · cases h1
theorem btB_ok {K : PySem.W.Frag} {file : Str} {C : Addr} (h : btB K file C = true) : ∃ fI, BtD K file C fI ∧ BtC K C fI := by
  unfold btB at h
  simp only [Bool.and_eq_true] at h
  obtain ⟨⟨h1, h2⟩, h3, h4, h5, h6, h7, h8⟩ := h
  split at h2
  · rename_i fI hi
    simp only [Bool.and_eq_true] at h2
    obtain ⟨hT, h2⟩ := h2
    refine ⟨fI, ?_, ⟨oexB_ok h1, hi, of_decide_eq_true hT, of_decide_eq_true h3, He.eqO_ok h4, He.eqO_ok h5, of_decide_eq_true h6, h7, He.eqO_ok h8⟩⟩
    split at h2
    · rename_i oc od fd osl hl
      unfold fdB at h2
      obtain ⟨n1, n2, n3, n4, n5, n6, n7, n8, n9, n10, n11, n12, n13, n14, n15⟩ := fd
      dsimp only at h2
      split at h2
      · rename_i a1 q1 a2 q2 sp p0 p1 ini p2 msg j p3 p4 p5 sf p6 rw' p7 rw2 p8 p9 cn cc cda
        simp only [Bool.and_eq_true] at h2
        obtain ⟨b1, b2, b3, b4, b5, b6, b7, b8, b9⟩ := h2
        obtain ⟨rfl, rfl, rfl, rfl, rfl, rfl, rfl, rfl⟩ := of_decide_eq_true b1
        have c2 : n6 = mainGlobals := of_decide_eq_true b2
        have c3 : n15 = builtinsNs := of_decide_eq_true b3
        have c4 : n8 = .none := of_decide_eq_true b4
        clear b2 b3 b4
        subst c2; subst c3; subst c4
        unfold scopeB at b6
        simp only [Bool.and_eq_true] at b6
        obtain ⟨s1, s2, s3, s4, s5, s6, s7, s8⟩ := b6
        unfold fileB at b8
        split at b8
        · rename_i oc2 od2 vs2 sl2 hl2
          split at b8
          · rename_i f tf hv
            have b8 : f = file := by simpa using b8
            subst b8
            unfold cellB at b9
            split at b9
            · rename_i oc3 od3 D sl3 hl3
              have b9 : D = C := by simpa using b9
              subst b9
              exact ⟨oc, od, osl, n1, n2, _, _, _, _, _, _, _, _, _, _, _, _, _, _, n5, n9, n10, n11, n14, n12, cda, cc, oc2, od2, vs2, sl2, tf, oc3, od3, sl3, hl, b5, of_decide_eq_true s1, of_decide_eq_true s2, of_decide_eq_true s3, fun x hx => of_decide_eq_true (List.all_eq_true.mp s4 x hx), of_decide_eq_true s5, of_decide_eq_true s6, of_decide_eq_true s7, of_decide_eq_true s8, hl2, hv, b7, hl3⟩
            · cases b9
          · cases b8
        · cases b8
      · cases h2
    · cases h2
  · cases h2
theorem excR_of {P : Program} {w : World} {K : PySem.W.Frag} {mg : Str → Option Value} {base : Heap} {M : Mp} {c : Nat} {x file : Str} (h : btB K file (M.exc c) = true) (hP : (P.main.file : Str) = file) (htop : (P.main.scope.names.lookup ("super" : Str)).isSome = false) (mgs : mg "super" = none)
    (hg : mg x = some (.ref (M.exc c))) (hr : M.row = "row") : ExcR P w K mg base M c x := by
  obtain ⟨fI, B, T⟩ := btB_ok h
  obtain ⟨fd, hb, h1, h2⟩ := bt_fn (P := P) (w := w) (mg := mg) (base := base) B T hP htop mgs
  exact ⟨hg, hr, fI, fd, T, hb, h1, h2⟩
end DL
set_option Elab.async false
set_option linter.all false
set_option maxRecDepth 100000
set_option maxHeartbeats 4000000
namespace DL
open PySem PySem.Spec PyProof PyProof.Rows L2
def strsD : List D → Option (List Str)
  | [] => some []
  | .str z :: l => (strsD l).map (z :: ·)
  | _ => none
theorem strsD_some : ∀ {l : List D} {ys : List Str}, strsD l = some ys → l = ys.map D.str
  | [], ys, h => by cases h; rfl
  | d :: l, ys, h => by
    cases d <;> try cases h
    rename_i z
    obtain ⟨zs, h1, rfl⟩ := Option.map_eq_some_iff.mp h
    rw [strsD_some h1]; rfl
theorem strsD_map : ∀ ys : List Str, strsD (ys.map D.str) = some ys
  | [] => rfl
  | z :: ys => by rw [List.map_cons, strsD, strsD_map ys]; rfl
def isStr : D → Bool
  | .str _ => true
  | _ => false
def joinO : D → List D → Option D
  | .str a, [.lst l] => (strsD l).bind fun ys => if (ys.map (·.length)).sum + ys.length * a.length ≤ 16777216 then some (.str (Txt.join a ys)) else none
  | _, _ => none
def splitO : D → List D → Option D
  | .str a, [.str b] => if (b.length == 0) = false ∧ a.length + 2 ≤ 16777216 then some (.lst ((Txt.split a b).map D.str)) else none
  | _, _ => none
def signS (a z : Str) : Option Bool := match a.cps.toList with
  | [c] => some (decide (c ∈ z.cps.toList))
  | _ => none
def opInS : D → D → Option D
  | .str a, .str z => (signS a z).map D.bl
  | _, _ => none
def opNinS : D → D → Option D
  | .str a, .str z => (signS a z).map fun b => .bl (!b)
  | _, _ => none
def intSO : List D → Option D
  | [.str a] => if a.length ≤ 640 then (intText? a).map D.int else none
  | _ => none
section
variable {M : Mp} {X : Cx} {W : WX} {K : PySem.W.Frag}
theorem ty_str {G H : Hp} {hs : List Addr} {x : D} {v : V} (h : RV K M G hs H x v) (e : isStr x = true) : tyV K "str" v H := by
  cases x <;> try cases e
  rw [h.str]
  rfl
theorem repL_strs {G : Hp} {hs : List Addr} : ∀ {ys : List Str} {vs : List V}, RepL K M G hs (ys.map D.str) vs → vs = ys.map V.str
  | [], vs, h => repL_nil.mp h
  | y :: ys, vs, h => by
    obtain ⟨v, vr, rfl, h1, h2⟩ := repL_cons.mp h
    rw [rep_str.mp h1, repL_strs h2]
    rfl
theorem repL_ofStrs {G : Hp} {hs : List Addr} : ∀ {ys : List Str}, RepL K M G hs (ys.map D.str) (ys.map V.str)
  | [] => repL_nil.mpr rfl
  | y :: ys => repL_cons.mpr ⟨_, _, rfl, rep_str.mpr rfl, repL_ofStrs⟩
theorem md_join : MthD M X "str" "str.join" isStr joinO := by
  refine ⟨_, mt_join, fun G hs s H x v J h e => ty_str h e, fun G hs s H x z ds v vs Q J hv hvs e k => ?_⟩
  unfold joinO at e
  split at e
  · rename_i a l
    obtain ⟨ys, h1, h2⟩ := Option.bind_eq_some_iff.mp e
    split at h2
    · rename_i hz
      cases h2
      obtain ⟨u, rfl, hd⟩ := hvs.one
      obtain ⟨p, us, rfl, h3, h4⟩ := hd.lst J
      rw [strsD_some h1] at h4
      rw [repL_strs h4] at h3
      exact ⟨a, p, ys, hv.str, rfl, .inl (.inl (.inl h3)), hz, k G H (Stp.refl _ _ _ _) J _ (rep_str.mpr rfl)⟩
    · cases h2
  · cases e
theorem md_split : MthD M X "str" "str.split" isStr splitO := by
  refine ⟨_, mt_split, fun G hs s H x v J h e => ty_str h e, fun G hs s H x z ds v vs Q J hv hvs e k => ?_⟩
  unfold splitO at e
  split at e
  · rename_i a b
    split at e
    · rename_i hz
      cases e
      obtain ⟨u, rfl, hd⟩ := hvs.one
      refine ⟨a, b, hv.str, by rw [hd.str], hz.1, by rw [sizeLine_eq]; exact hz.2, fun p hp => ?_⟩
      obtain ⟨S, J'⟩ := J.laid (o := .lst ((Txt.split a b).map V.str)) hp
      exact k _ _ S J' _ (rep_lst.mpr ⟨p, _, rfl, upd_same, repL_ofStrs⟩)
    · cases e
  · cases e
theorem signS_some {a z : Str} {b : Bool} (h : signS a z = some b) : ∃ c, a = ⟨#[c]⟩ ∧ b = decide (c ∈ z.cps.toList) := by
  unfold signS at h
  split at h
  · rename_i c hc
    cases h
    refine ⟨c, ?_, rfl⟩
    obtain ⟨⟨l⟩⟩ := a
    simp only at hc
    rw [hc]
  · cases h
theorem od_inS : OpD M X (compareOp .In) opInS := by
  refine ⟨_, op_in_sign, fun G hs s H x y z v u Q J hx hy e k => ?_⟩
  unfold opInS at e
  split at e
  · rename_i a w
    obtain ⟨b, h1, rfl⟩ := Option.map_eq_some_iff.mp e
    obtain ⟨c, rfl, rfl⟩ := signS_some h1
    exact ⟨c, w, hx.str, hy.str, k G H (Stp.refl _ _ _ _) J _ (rep_bl.mpr rfl)⟩
  · cases e
theorem od_ninS : OpD M X (compareOp .NotIn) opNinS := by
  refine ⟨_, op_notIn_sign, fun G hs s H x y z v u Q J hx hy e k => ?_⟩
  unfold opNinS at e
  split at e
  · rename_i a w
    obtain ⟨b, h1, rfl⟩ := Option.map_eq_some_iff.mp e
    obtain ⟨c, rfl, rfl⟩ := signS_some h1
    exact ⟨c, w, hx.str, hy.str, k G H (Stp.refl _ _ _ _) J _ (rep_bl.mpr rfl)⟩
  · cases e
theorem cd_intS : CallD M X (.type "int") intSO := by
  refine ⟨_, call_int_str, fun G hs s H ds z vs Q J hv e k => ?_⟩
  unfold intSO at e
  split at e
  · rename_i a
    split at e
    · rename_i hz
      obtain ⟨n, h1, rfl⟩ := Option.map_eq_some_iff.mp e
      obtain ⟨v, rfl, h⟩ := hv.one
      exact ⟨a, n, by rw [h.str], h1, hz, k G H (Stp.refl _ _ _ _) J _ (rep_int.mpr rfl)⟩
    · cases e
  · cases e
end
theorem joinO_s {a : Str} {ys : List Str} (h : (ys.map (·.length)).sum + ys.length * a.length ≤ 16777216) : joinO (.str a) [.lst (ys.map D.str)] = some (.str (Txt.join a ys)) := by
  unfold joinO
  simp only [strsD_map, Option.bind_some, if_pos h]
theorem splitO_s {a b : Str} (h : (b.length == 0) = false ∧ a.length + 2 ≤ 16777216) : splitO (.str a) [.str b] = some (.lst ((Txt.split a b).map D.str)) := if_pos h
end DL
set_option Elab.async false
set_option linter.all false
set_option maxRecDepth 100000
set_option maxHeartbeats 4000000
namespace DL
open PySem PySem.Spec PyProof PyProof.Rows L2
section
variable {M : Mp} {K : PySem.W.Frag} {P : Program} {w : World} {mg : Str → Option Value} {base : Heap}
theorem Fun.okCN {x qual : Str} {st : Stmt} {p : He.Defn} {fd : FuncData} {N ps : List Str} {k : Nat} {sp : Sp} (F : Fun K x qual st (He.fAd K p) fd) (S : FnScope N ps (defScope st)) (len : ∀ vs H Q E, sp vs H Q E → vs.length = ps.length)
    (hbody : ∀ (cdv : Value), cdv = .ref (He.cT K p).1 → ∀ (A : Around) (outer : List PySem.Env) (s : Shared) (H : Hp) (vs : List V) (Q : VK) (E : XK), Room k (A.deeper (envOfC qual (defScope st) s.heap.objs.size (He.fAd K p) cdv)) → sp vs H Q E →
      ∃ t, PSs (cxOf (L2N.CX P w) P w K mg base N qual (defScope st) (He.fAd K p) cdv A outer s H E) (defBody st) t ∧ t { nx := fun _ H' => Q .non H', rt := Q } (L2.start N vs) H) : FnOk P w K mg base (L2N.CX P w) (k + 1) (He.fAd K p) fd ps sp := by
  obtain ⟨oc, od, kV, doc, pm, an, cdv, ct, osl, rfl, lk, hcd⟩ := F.ex
  obtain ⟨c, hc⟩ := He.codeIn_ref hcd
  have e : cdv = .ref (He.cT K p).1 := by
    show cdv = .ref (He.codeOf K p)
    rw [He.codeOf_eq (c := c) lk hc, hc]
  exact fn_of lk hcd S len fun A outer s H vs Q E hr hsp => hbody cdv e A outer s H vs Q E hr hsp
abbrev BodyN (M : Mp) (P : Program) (w : World) (K : PySem.W.Frag) (mg : Str → Option Value) (base : Heap) (k : Nat) (N : List Str) (qual : Str) (st : Stmt) (f : Addr) (cdv : Value) (body : Env → DS → F) : Prop := ∀ (A : Around) (outer : List PySem.Env) (s : Shared) (H : Hp) (E : XK),
  Room k (A.deeper (envOfC qual (defScope st) s.heap.objs.size f cdv)) → DSs M (cxOf (L2N.CX P w) P w K mg base N qual (defScope st) f cdv A outer s H E) (WofE E) (defBody st) body
theorem fn_okN {x qual : Str} {st : Stmt} {p : He.Defn} {fd : FuncData} {N ps : List Str} {k : Nat} {body : Env → DS → F} (F : Fun K x qual st (He.fAd K p) fd) (S : FnScope N ps (defScope st)) (hb : ∀ cdv : Value, cdv = .ref (He.cT K p).1 → BodyN M P w K mg base k N qual st (He.fAd K p) cdv body) : FnOk P w K mg base (L2N.CX P w) (k + 1) (He.fAd K p) fd ps (SpD K M ps.length (fnD N.length body)) := by
  refine Fun.okCN F S (fun vs H Q E ⟨G, hs, s, ds, _, r, hl, _⟩ => by rw [← r.length, hl]) fun cdv hcd A outer s0 H vs Q E hr ⟨G, hs, s, ds, J, r, hl, hp⟩ => ?_
  obtain ⟨t, pt, h⟩ := (hb cdv hcd A outer s0 H E hr).ex
  refine ⟨t, pt, h ⟨G, hs, H, none⟩ (L2.start N vs) H G hs (fun _ => 0) (padE N.length (ds.map .v)) s _ ⟨J, Stp.refl _ _ _ _, fun i d e => ?_, fun i d e => ?_, fun i j d d' e => ?_, ?_, fun _ _ z => by cases z⟩ (fnD_post (A := ⟨G, hs, H, none⟩) hp)⟩
  · have e1 := pad_get e (fun z => by cases z)
    rw [List.getElem?_map, Option.map_eq_some_iff] at e1
    obtain ⟨d', e2, e3⟩ := e1
    cases e3
    obtain ⟨v, h1, h2⟩ := r.get e2
    exact ⟨v, start_get h1, h2⟩
  · have e1 := pad_get e (fun z => by cases z)
    rw [List.getElem?_map, Option.map_eq_some_iff] at e1
    obtain ⟨d', e2, e3⟩ := e1
    cases e3
  · have e1 := pad_get e (fun z => by cases z)
    rw [List.getElem?_map, Option.map_eq_some_iff] at e1
    obtain ⟨d', e2, e3⟩ := e1
    cases e3
  · rw [start_len, ← r.length]
    unfold padE
    rw [List.length_append, List.length_replicate, List.length_map]
theorem in_okN {x qual : Str} {st : Stmt} {p : He.Defn} {fd : FuncData} {N ps : List Str} {k c : Nat} {body : Env → DS → F} (F : Fun K x qual st (He.fAd K p) fd) (S : FnScope N ps (defScope st)) (hb : ∀ cdv : Value, cdv = .ref (He.cT K p).1 → BodyN M P w K mg base k N qual st (He.fAd K p) cdv body) : FnOk P w K mg base (L2N.CX P w) (k + 1) (He.fAd K p) fd ps (SpI K M c ps.length (inD c N.length body)) := by
  refine Fun.okCN F S (fun vs H Q E ⟨G, hs, s, ds, x, dx, H0, vs', e, _, _, _, _, _, r, hl, _⟩ => by rw [e, List.length_cons, ← r.length, hl]) fun cdv hcd A outer s0 H vs Q E hr ⟨G, hs, s, ds, x, dx, H0, vs', e, h1, h2, h3, h4, J, r, hl, hp⟩ => ?_
  subst e h4
  obtain ⟨t, pt, h⟩ := (hb cdv hcd A outer s0 _ E hr).ex
  have ext : ∀ a o, H0 a = some o → upd (upd H0 dx (.own x)) x (.ins (M.cls c) dx []) a = some o := fun a o e => by
    rw [upd_ne (ne_of_none e h1), upd_ne (ne_of_none e h2)]
    exact e
  obtain ⟨f1, f2, f3⟩ := J.free h1
  have own0 : ∀ {i : Nat} {d : D}, (padE N.length (.o (.obj c []) :: ds.map .v))[i]? = some (.o d) → i = 0 ∧ d = .obj c [] := fun {i d} e => by
    have e1 := pad_get e (fun z => by cases z)
    cases i with
    | zero => simp at e1; exact ⟨rfl, e1.symm⟩
    | succ i =>
      rw [List.getElem?_cons_succ, List.getElem?_map, Option.map_eq_some_iff] at e1
      obtain ⟨d', e2, e3⟩ := e1
      cases e3
  refine ⟨t, pt, h ⟨G, hs, H0, some x⟩ (L2.start N (.ref x :: vs')) _ G hs (fun _ => x) (padE N.length (.o (.obj c []) :: ds.map .v)) s _ ⟨J.extH ext, Stp.extH ext, fun i d e => ?_, fun i d e => ?_, fun i j d d' e e' _ => by rw [(own0 e).1, (own0 e').1], ?_, fun y d z _ => Option.some.inj z⟩ ?_⟩
  · have e1 := pad_get e (fun z => by cases z)
    cases i with
    | zero => simp at e1
    | succ i =>
      rw [List.getElem?_cons_succ, List.getElem?_map, Option.map_eq_some_iff] at e1
      obtain ⟨d', e2, e3⟩ := e1
      cases e3
      obtain ⟨v, h1, h2⟩ := r.get e2
      exact ⟨v, start_get (by rw [List.getElem?_cons_succ]; exact h1), h2⟩
  · obtain ⟨rfl, rfl⟩ := own0 e
    exact ⟨start_get rfl, ⟨dx, [], upd_same, by simp, repL_nil.mpr rfl⟩, f1, f2, f3, nt_none h1⟩
  · rw [start_len]
    unfold padE
    rw [List.length_append, List.length_replicate, List.length_cons, List.length_cons, List.length_map, r.length]
  · unfold inD at hp
    split at hp
    · rename_i η s1 e
      rw [e]
      intro σ H' G' hs' own I
      split at hp
      · rename_i d e0
        obtain ⟨k1, k2, k3, k4, k5, k6⟩ := I.ow 0 d e0
        rw [I.sf x d rfl e0] at k2 k3 k4 k5
        exact hp G' hs' H' I.stp I.sim ⟨k2, k3, k4, k5⟩
      · exact hp.elim
    · rename_i e
      rw [e]
      exact fun σ H G hs own cls dx I x => hp G hs H cls dx I.stp I.sim x
    · exact hp.elim
end
section
variable {M : Mp} {X : Cx} {W : WX} {x m : Str} {e o : Expr} {es : List Expr} {p pos apos : Pos} {fa : Env → DS → R (List D)} {fo : Env → DS → R D}
theorem de_callN {k : Nat} {f : Addr} {fd : FuncData} {ps : List Str} {n : Nat} {g : List D → DS → R D} (F : FnOk X.prog X.w X.K X.mg X.base (L2N.CX X.prog X.w) k f fd ps (SpD X.K M n g)) (hb : Binds X.K fd ps []) (hk : PySem.W.keepIn X.K (.ref f) = true) (hm : X.mg x = some (.ref f)) (hr : Room k X.A) (tk : L2N.Takes X W) (ha : DA M X W (e :: es) fa)
    (hg : Gl X x := by rfl) (hdb : (x == ("__debug__" : Str)) = false := by decide) (he : starEach (e :: es) X.env = (false, eval e X.env) :: starEach es X.env := by rfl) (hpl : (backTo pos (starEach es X.env)).any (·.1) = false := by rfl) :
    DE M X W (.Call (.Name x p) (e :: es) [] pos) (callD (gateD n g) fa) := by
  obtain ⟨t, pt, h⟩ := ha.ex
  refine ⟨_, pe_callS F hr hg hm hk hb (fun σ => L2N.passAt tk σ) pt hdb he hpl, fun A σ H G hs own η s Q I hp => ?_⟩
  exact h A σ H G hs own η s _ I (hp.bind.mono fun ds G1 hs1 s1 H1 S1 J1 h1 vs hvs => spd_of (fun _ _ _ z => z) J1 hvs h1)
theorem df_makeN {k c : Nat} {f : Addr} {fd : FuncData} {ps : List Str} {n : Nat} {g : List D → DS → R D} (F : FnOk X.prog X.w X.K X.mg X.base (L2N.CX X.prog X.w) k f fd ps (SpI X.K M c (n + 1) g)) (hb : Binds X.K fd ps []) (mk : Mk X.K (M.cls c) f) (hm : X.mg x = some (.ref (M.cls c))) (hr : Room (k + 1) X.A) (tk : L2N.Takes X W) (hW : Flat W) (ha : DA M X W (e :: es) fa)
    (hg : Gl X x := by rfl) (hdb : (x == ("__debug__" : Str)) = false := by decide) (he : starEach (e :: es) X.env = (false, eval e X.env) :: starEach es X.env := by rfl) (hpl : (backTo pos (starEach es X.env)).any (·.1) = false := by rfl) :
    DF M X W (.Call (.Name x p) (e :: es) [] pos) (callD (gateD n g) fa) := by
  obtain ⟨t, pt, h⟩ := ha.ex
  refine ⟨_, pe_make (E := WU W) mk F hr hg hm hb (dvs := []) Paired.nil (L2N.passes_call tk fun c d σ H ⟨σ', z⟩ => hW c d σ' σ H z) pt hdb he hpl, fun A σ H G hs own η s Q I hp => ?_⟩
  refine h A σ H G hs own η s _ I (hp.bind.mono fun ds G1 hs1 s1 H1 S1 J1 h1 vs hvs x dx hx hdx hne => ?_)
  unfold gateD at h1
  split at h1
  · rename_i hl
    refine ⟨G1, hs1, s1, ds, x, dx, H1, vs, by rw [List.append_nil], hx, hdx, hne, rfl, J1, hvs, by rw [hl], ?_⟩
    refine (h1.sig (E := WU W) (fun _ _ _ z => ⟨σ, z⟩)).mono fun d G2 hs2 s2 H2 S2 J2 h2 fr => ⟨rfl, h2 x (S1.dm _ (nt_none hx)) fr⟩
  · exact h1.elim
theorem de_methTN {pl : Sem Bool} {k c : Nat} {f : Addr} {fd : FuncData} {ps : List Str} {n : Nat} {g : List D → DS → R D} (F : FnOk X.prog X.w X.K X.mg X.base (L2N.CX X.prog X.w) k f fd ps (SpD X.K M n g)) (hb : Binds X.K fd ps []) (C : ClsOk X.K M c) (hme : Meth X.K (M.cls c) m f) (hr : Room k X.A) (tk : L2N.Takes X W) (ho : DE M X W o fo) (ha : DA M X W (e :: es) fa)
    (hn : (M.flds c).contains m = false := by rfl) (hst : starEach (e :: es) X.env = (false, eval e X.env) :: starEach es X.env := by rfl) (hpl : (backTo pos (starEach es X.env)).any (·.1) = false := by rfl)
    (ht : eval (.Call (.Attribute o m apos) (e :: es) [] pos) X.env = (do
      let ov ← eval o X.env
      standAt apos.atName
      let (f, first) ← holding [ov] (getMethod ov m pl)
      callWith pos f first (backTo pos (starEach (e :: es) X.env)) (backToKw pos (keywordEach [] X.env))) := by rfl) :
    DE M X W (.Call (.Attribute o m apos) (e :: es) [] pos) (methD c (gateD n g) fo fa) := by
  obtain ⟨t, pt, h⟩ := ho.ex
  obtain ⟨ta, pa, ka⟩ := ha.ex
  refine ⟨_, pe_methT (pl := pl) pt C.cl hme F hr hb (fun σ => L2N.passAt tk σ) pa hst hpl ht, fun A σ H G hs own η s Q I hp => ?_⟩
  refine h A σ H G hs own η s _ I (hp.bind.mono fun d G1 hs1 s1 H1 S1 J1 h1 v hv => ?_)
  split at h1
  · rename_i hc
    obtain ⟨a, dx, fs, rfl, e1, e2⟩ := isC_at J1 hn hv hc
    refine ⟨a, dx, fs, rfl, e1, e2, ?_⟩
    refine ka A σ H1 G1 hs1 own η s1 _ (I.step S1 J1) (h1.bind.mono fun ds G2 hs2 s2 H2 S2 J2 h2 vs hvs => ?_)
    exact spd_of (fun _ _ _ z => z) J2 (repL_cons.mpr ⟨_, _, rfl, hv.mono S2.gg S2.hp, hvs⟩) h2
  · exact h1.elim
theorem de_methT0N {pl : Sem Bool} {k c : Nat} {f : Addr} {fd : FuncData} {ps : List Str} {n : Nat} {g : List D → DS → R D} (F : FnOk X.prog X.w X.K X.mg X.base (L2N.CX X.prog X.w) k f fd ps (SpD X.K M n g)) (hb : Binds X.K fd ps []) (C : ClsOk X.K M c) (hme : Meth X.K (M.cls c) m f) (hr : Room k X.A) (tk : L2N.Takes X W) (ho : DE M X W o fo)
    (hn : (M.flds c).contains m = false := by rfl)
    (ht : eval (.Call (.Attribute o m apos) [] [] pos) X.env = (do
      let ov ← eval o X.env
      standAt apos.atName
      let (f, first) ← holding [ov] (getMethod ov m pl)
      callWith pos f first (backTo pos (starEach [] X.env)) (backToKw pos (keywordEach [] X.env))) := by rfl) :
    DE M X W (.Call (.Attribute o m apos) [] [] pos) (methD c (gateD n g) fo nilA) := by
  obtain ⟨t, pt, h⟩ := ho.ex
  obtain ⟨ta, pa, ka⟩ := (da_nil (M := M) (X := X) (W := W)).ex
  refine ⟨_, pe_methT0 (pl := pl) pt C.cl hme F hr hb (fun σ => L2N.passAt tk σ) ht, fun A σ H G hs own η s Q I hp => ?_⟩
  refine h A σ H G hs own η s _ I (hp.bind.mono fun d G1 hs1 s1 H1 S1 J1 h1 v hv => ?_)
  split at h1
  · rename_i hc
    obtain ⟨a, dx, fs, rfl, e1, e2⟩ := isC_at J1 hn hv hc
    refine ⟨a, dx, fs, rfl, e1, e2, ?_⟩
    exact spd_of (fun _ _ _ z => z) J1 (repL_cons.mpr ⟨_, _, rfl, hv, repL_nil.mpr rfl⟩) h1
  · exact h1.elim
end
/-- such a promise is a promise -/
theorem FnOk.down {P : Program} {w : World} {K : PySem.W.Frag} {mg : Str → Option Value} {base : Heap} {k : Nat} {f : Addr} {fd : FuncData} {ps : List Str} {sp : Sp} (F : FnOk P w K mg base (L2N.CX P w) k f fd ps sp) : FnOk P w K mg base (L2.CX P w) k f fd ps sp :=
  ⟨F.len, fun A outer s H args us vs Q E hr he hb hv hs => codeAny_mono (F.run A outer s H args us vs Q E hr he hb hv hs) fun r s' h => by
    cases r with
    | ok fl => cases fl <;> exact h
    | error e =>
      obtain ⟨a, B, H', cls, d, e1, fl, r⟩ := h
      exact ⟨a, B, H', cls, d, e1, L2H.flyingZ_imp (fun o z => z.zc) fl, r⟩⟩
def tryX (c : Nat) (fb fs : Env → DS → F) : Env → DS → F := fun η s => match fb η s with
  | .ex c' _ η1 s1 => if c' = c then fs η1 s1 else .bad
  | r => r
def tryXK (c : Nat) (fs : Env → DS → F) (r : F) : F := match r with
  | .ex c' _ η1 s1 => if c' = c then fs η1 s1 else .bad
  | r => r
theorem tryX_eq {c : Nat} {fb fs : Env → DS → F} {η : Env} {s : DS} : tryX c fb fs η s = tryXK c fs (fb η s) := by
  unfold tryX tryXK
  cases fb η s <;> rfl
theorem tryXK_nx {c : Nat} {fs : Env → DS → F} {η : Env} {s : DS} : tryXK c fs (.nx η s) = .nx η s := rfl
theorem tryXK_rt {c : Nat} {fs : Env → DS → F} {d : D} {s : DS} : tryXK c fs (.rt d s) = .rt d s := rfl
theorem tryXK_ex {c : Nat} {fs : Env → DS → F} {p : List D} {η : Env} {s : DS} : tryXK c fs (.ex c p η s) = fs η s := if_pos rfl
end DL
set_option Elab.async false
set_option linter.all false
set_option maxRecDepth 100000
set_option maxHeartbeats 4000000
namespace DL
open PySem PySem.Spec PyProof PyProof.Rows L2
def rowK (n : Nat) (i : Nat) (p : List D) (η : Env) (s : DS) : F := match p with
  | [d] => if i < η.length then .rt d s else .bad
  | _ => .bad
def tryAs (c i : Nat) (fb : Env → DS → F) : Env → DS → F := fun η s => match fb η s with
  | .ex c' p η1 s1 => if c' = c then rowK c i p η1 s1 else .bad
  | r => r
def tryAsK (c i : Nat) (r : F) : F := match r with
  | .ex c' p η1 s1 => if c' = c then rowK c i p η1 s1 else .bad
  | r => r
theorem tryAs_eq {c i : Nat} {fb : Env → DS → F} {η : Env} {s : DS} : tryAs c i fb η s = tryAsK c i (fb η s) := by
  unfold tryAs tryAsK
  cases fb η s <;> rfl
theorem tryAsK_nx {c i : Nat} {η : Env} {s : DS} : tryAsK c i (.nx η s) = .nx η s := rfl
theorem tryAsK_rt {c i : Nat} {d : D} {s : DS} : tryAsK c i (.rt d s) = .rt d s := rfl
theorem tryAsK_ex {c i : Nat} {d : D} {η : Env} {s : DS} (h : i < η.length) : tryAsK c i (.ex c [d] η s) = .rt d s := by
  show (if c = c then rowK c i [d] η s else .bad) = _
  rw [if_pos rfl]
  exact if_pos h
end DL
set_option Elab.async false
set_option linter.all false
set_option maxRecDepth 100000
set_option maxHeartbeats 4000000
namespace DL
open PySem PySem.Spec PyProof PyProof.Rows L2
def SpIH (K : PySem.W.Frag) (M : Mp) (c n : Nat) (g : List D → DS → R D) : Sp := fun vs H Q E => ∃ (G : Hp) (hs : List Addr) (s : DS) (ds : List D) (x dx : Addr) (H0 : Hp) (vs' : List V), vs = .ref x :: vs' ∧ H0 x = none ∧ H0 dx = none ∧ dx ≠ x ∧ H = upd (upd H0 dx (.own x)) x (.ins (M.cls c) dx []) ∧
  Sim K M G hs s H0 ∧ RepL K M G hs ds vs' ∧ ds.length + 1 = n ∧ RPost K M [] (WofE E) G hs H0 (g ds s) (fun d G' hs' _ H' => Rep K M G' hs' d (.ref x) → Q .non H')
def inHD (c n : Nat) (body : Env → DS → F) : List D → DS → R D := fun ds s => match body (padE n (.v (.han s.length) :: ds.map .v)) (s ++ [.obj c []]) with
  | .nx _ s1 => .ok (.han s.length) s1
  | .ex c p _ s1 => .ex c p s1
  | _ => .bad
section
variable {M : Mp} {K : PySem.W.Frag} {P : Program} {w : World} {mg : Str → Option Value} {base : Heap}
theorem in_okH {x qual : Str} {st : Stmt} {p : He.Defn} {fd : FuncData} {N ps : List Str} {k c : Nat} {body : Env → DS → F} (F : Fun K x qual st (He.fAd K p) fd) (S : FnScope N ps (defScope st)) (hb : ∀ cdv : Value, cdv = .ref (He.cT K p).1 → BodyC M P w K mg base k N qual st (He.fAd K p) cdv body) : FnOk P w K mg base (L2.CX P w) (k + 1) (He.fAd K p) fd ps (SpIH K M c ps.length (inHD c N.length body)) := by
  refine Fun.okC F S (fun vs H Q E ⟨G, hs, s, ds, x, dx, H0, vs', e, _, _, _, _, _, r, hl, _⟩ => by rw [e, List.length_cons, ← r.length, hl]) fun cdv hcd A outer s0 H vs Q E hr ⟨G, hs, s, ds, x, dx, H0, vs', e, h1, h2, h3, h4, J, r, hl, hp⟩ => ?_
  subst e h4
  obtain ⟨t, pt, h⟩ := (hb cdv hcd A outer s0 _ E hr).ex
  have ext : ∀ a o, H0 a = some o → upd (upd H0 dx (.own x)) x (.ins (M.cls c) dx []) a = some o := fun a o e => by
    rw [upd_ne (ne_of_none e h1), upd_ne (ne_of_none e h2)]
    exact e
  obtain ⟨f1, f2, f3⟩ := J.free h1
  have fr : Fr1 K M G hs (upd (upd H0 dx (.own x)) x (.ins (M.cls c) dx [])) (.obj c []) x := ⟨⟨dx, [], upd_same, by simp, repL_nil.mpr rfl⟩, f1, f2, f3⟩
  have J2 := (J.extH ext).newHan fr
  have S2 : Stp M G hs H0 G (hs ++ [x]) (upd (upd H0 dx (.own x)) x (.ins (M.cls c) dx [])) := (Stp.extH ext).newHan (nt_none h1)
  have hx : (hs ++ [x])[s.length]? = some x := by rw [← J.len]; simp
  refine ⟨t, pt, h ⟨G, hs ++ [x], upd (upd H0 dx (.own x)) x (.ins (M.cls c) dx []), none⟩ (L2.start N (.ref x :: vs')) _ G (hs ++ [x]) (fun _ => x) (padE N.length (.v (.han s.length) :: ds.map .v)) (s ++ [D.obj c []]) _ ⟨J2, Stp.refl _ _ _ _, fun i d e => ?_, fun i d e => ?_, fun i j d d' e e' _ => ?_, ?_, fun y d z _ => by cases z⟩ ?_⟩
  · have e1 := pad_get e (fun z => by cases z)
    cases i with
    | zero =>
      simp at e1
      subst e1
      exact ⟨.ref x, start_get rfl, rep_han.mpr ⟨x, rfl, hx⟩⟩
    | succ i =>
      rw [List.getElem?_cons_succ, List.getElem?_map, Option.map_eq_some_iff] at e1
      obtain ⟨d', e2, e3⟩ := e1
      cases e3
      obtain ⟨v, h1, h2⟩ := r.get e2
      exact ⟨v, start_get (by rw [List.getElem?_cons_succ]; exact h1), h2.mono S2.gg S2.hp⟩
  · have e1 := pad_get e (fun z => by cases z)
    cases i with
    | zero => simp at e1
    | succ i =>
      rw [List.getElem?_cons_succ, List.getElem?_map, Option.map_eq_some_iff] at e1
      obtain ⟨d', e2, e3⟩ := e1
      cases e3
  · have e1 := pad_get e (fun z => by cases z)
    cases i with
    | zero => simp at e1
    | succ i =>
      rw [List.getElem?_cons_succ, List.getElem?_map, Option.map_eq_some_iff] at e1
      obtain ⟨d', e2, e3⟩ := e1
      cases e3
  · rw [start_len]
    unfold padE
    rw [List.length_append, List.length_replicate, List.length_cons, List.length_cons, List.length_map, r.length]
  · unfold inHD at hp
    split at hp
    · rename_i η s1 e
      rw [e]
      intro σ H' G' hs' own I
      exact hp G' hs' H' (S2.trans I.stp) I.sim (rep_han.mpr ⟨x, rfl, I.stp.hp _ _ hx⟩)
    · rename_i e
      rw [e]
      exact fun σ H G hs own cls dx I x => hp G hs H cls dx (S2.trans I.stp) I.sim x
    · exact hp.elim
end
end DL
set_option Elab.async false
set_option linter.all false
set_option maxRecDepth 100000
set_option maxHeartbeats 4000000
namespace DL
open PySem PySem.Spec PyProof.Rows L2
section
variable {M : Mp} {X : Cx} {W : WX} {K : PySem.W.Frag}
theorem adopt1 {G H : Hp} {hs : List Addr} {s : DS} {b : Addr} {vs : List V} (J : Sim K M G hs s H) (e : H b = some (.tup vs)) : ∃ G2, Stp M G hs H G2 hs H ∧ Sim K M G2 hs s H ∧ G2 b = some (.tup vs) := by
  cases q : G b with
  | some o =>
    have := J.sub b o q
    rw [e] at this
    cases this
    exact ⟨G, Stp.refl _ _ _ _, J, q⟩
  | none =>
    have n : b ∉ hs := fun z => by
      obtain ⟨k, d, _, _, h⟩ := J.hanAt z
      exact h.notup e vs rfl
    have t : ¬ inTab M b := fun z => by
      obtain ⟨ps, h⟩ := J.tabS z
      rw [e] at h
      cases h
    refine ⟨upd G b (.tup vs), ⟨same_upd q, fun a u h => ?_, Pre.refl _, fun _ h => .inl h, fun _ _ h _ _ => h, fun _ h => h⟩, J.still e n t q (fun ps z => by cases z), upd_same⟩
    by_cases z : a = b
    · subst z
      exact .inr (.inr ⟨⟨_, e, .inl ⟨vs, rfl⟩⟩, n⟩)
    · rw [upd_ne z] at h
      exact .inl h
theorem adopt {H : Hp} {hs : List Addr} {s : DS} : ∀ {kvs : List (List Key × V)} {bs : List Addr} {G : Hp}, Sim K M G hs s H → Paired (fun (x : List Key × V) b => H b = some (.tup (x.1.map kV))) kvs bs → ∃ G2, Stp M G hs H G2 hs H ∧ Sim K M G2 hs s H ∧ Paired (fun (x : List Key × V) b => G2 b = some (.tup (x.1.map kV))) kvs bs
  | _, _, G, J, .nil => ⟨G, Stp.refl _ _ _ _, J, .nil⟩
  | _, _, G, J, .cons h t => by
    obtain ⟨G1, S1, J1, e1⟩ := adopt1 J h
    obtain ⟨G2, S2, J2, e2⟩ := adopt J1 t
    exact ⟨G2, S1.trans S2, J2, .cons (S2.gg _ _ e1) e2⟩
theorem repL_keysT {G : Hp} {hs : List Addr} : ∀ {kvs : List (List Key × V)} {bs : List Addr}, Paired (fun (x : List Key × V) b => G b = some (.tup (x.1.map kV))) kvs bs → RepL K M G hs (kvs.map fun x => keyT x.1) (bs.map V.ref)
  | _, _, .nil => repL_nil.mpr rfl
  | _, _, .cons h t => repL_cons.mpr ⟨_, _, rfl, rep_tupR h (repL_keys _), repL_keysT t⟩
def rSortKT (X : Cx) (_ : Mp) : List V → Hp → VK → Prop := fun vs H Q => ∃ (a : Addr) (kvs : List (List Key × V)), vs = [.ref a] ∧ Rd H a (.dT kvs) ∧ sortOk (kvs.map fun x => keyT x.1) = true ∧
  ∀ (bs : List Addr) (p : Addr), Paired (fun (x : List Key × V) b => H b = some (.tup (x.1.map kV))) kvs bs → H p = none → Q (.ref p) (upd H p (.lst (sortW bs (kvs.map fun x => keyT x.1))))
theorem cr_sortKT (hcalm : X.calm = true) (hu : X.A.units + 65 < cLine) : CallR X (.builtin "sorted") (rSortKT X M) := by
  intro pins s σ H xs us Q I r q
  obtain ⟨a, kvs, ex, hd, hk, q⟩ := q
  subst ex
  obtain ⟨u, eu, rx⟩ := vals1 r
  subst eu
  cases rx
  unfold sortOk at hk
  simp only [Bool.and_eq_true, decide_eq_true_eq] at hk
  obtain ⟨⟨hk, hn⟩, ht⟩ := hk
  obtain ⟨ok, dp, hal⟩ := likeAll_of hk
  obtain ⟨z, hs0, ks, pr, o, es, ep, ho, hx, hdt, he, hnn⟩ := (show ObjOk X.prog X.w H s.heap a (.dT kvs) from hd.ok I.hok)
  have l1 : es.size = ks.length := size_of_entries he
  have l2 : kvs.length = ks.length := Paired.length pr
  have h16 : es.size ≤ sizeLine := by omega
  refine Calls.call_function_entry PyProof.Rows.kind_sorted PyProof.Rows.plain_sorted PyProof.Rows.entry_sorted (PyProof.Rows.args_sorted1 _) ?_
  unfold Builtin.«sorted»
  refine wpAny_bind (m := checkCount "sorted" 1 1 _) (wpAny_pure ?_)
  refine wpAny_bind (PySem.W.kdu_collect (A := X.A.in1) (kdl_raw hs0 hx hdt) (I.ok.hd hcalm) ho h16 fun h' tk acc hk' hacc => ?_)
  have eb : acc.toList = (ks.map fun x => x.2.1).map Value.ref := by
    have hl : acc.toList.length = ks.length := by rw [Array.length_toList, hacc.1]; exact l1
    apply List.ext_getElem?
    intro j
    rw [List.map_map, List.getElem?_map]
    cases hj : acc.toList[j]? with
    | none =>
      have h1 := List.getElem?_eq_none_iff.mp hj
      rw [List.getElem?_eq_none (by omega)]
      all_goals rfl
    | some v =>
      obtain ⟨en, hen, hv⟩ := hacc.2 j v (by rw [← Array.getElem?_toList]; exact hj)
      have qe := entry_at he j
      rw [hen] at qe
      cases hb : ks[j]? with
      | none =>
        rw [hb] at qe
        exact nomatch (show some en = none from qe)
      | some b =>
        rw [hb] at qe
        have e2 : en = entryOfKey (tupleKind (mixKind X.prog X.w)) b := Option.some.inj qe
        rw [hv, e2]
        all_goals rfl
  obtain ⟨bs, hbs⟩ : ∃ bs, ks.map (fun x => x.2.1) = bs := ⟨_, rfl⟩
  rw [hbs] at eb
  have pb : Paired (fun (x : List Key × V) b => H b = some (.tup (x.1.map kV))) kvs bs := by
    rw [← hbs]
    exact isKeys_of pr
  have lb : bs.length = kvs.length := (Paired.length pb).symm
  have rl : RepL X.K M H [] (kvs.map fun x => keyT x.1) (bs.map V.ref) := repL_keysT pb
  have I1 : Inv X pins σ H { s with heap := h', toks := tk } := I.kept hk'
  refine wpAny_bind (wpAny_newList ?_ (by rw [eb, List.length_map, lb]; exact z))
  rw [eb]
  have hoL : (h'.push (seqObj "list" (bs.map Value.ref).toArray 0)).get? h'.objs.size = some (seqObj "list" (bs.map Value.ref).toArray 0) := Heap.get?_push_size _ rfl
  show wpAny _ _ _ _ _ { s with heap := h'.push (seqObj "list" (bs.map Value.ref).toArray 0), toks := tk }
  generalize hL : (kvs.map fun x => keyT x.1) = l at *
  have hrel : Vals (bs.map V.ref) (bs.map Value.ref) := LiI.vals_refs bs
  obtain ⟨as, ra⟩ := Dp.readsAll I1 (toPDL l) _ _ (dp_ofL (M := M) (hs := []) (fun _ _ h => h) _ _ ok rl) hrel
  obtain ⟨e1, e2⟩ := each_zip rl hrel ra
  obtain ⟨z1, z2⟩ := zip_facts rl
  have em : ((bs.map V.ref).zip l).map encZ = l.map toPD := by
    have : ((bs.map V.ref).zip l).map encZ = (((bs.map V.ref).zip l).map (·.2)).map toPD := by rw [List.map_map]; rfl
    rw [this, z1]
  have hlen : ((bs.map V.ref).zip l).length = l.length := by
    have := congrArg List.length z1
    rwa [List.length_map] at this
  have dd := (lay_toPDL l ok).2
  have er : PySem.W.EachIs (fun v b => ∃ as', Reads (h'.push (seqObj "list" (bs.map Value.ref).toArray 0)) v (encZ b) as' ∧ h'.objs.size ∉ as') (bs.map Value.ref) ((bs.map V.ref).zip l) := e2.mono fun v b ⟨as', r⟩ => ⟨as', PyProof.Rows.Reads.keeps (fun _ _ q => Heap.get?_push_of_some _ q) r, fun z => by
    obtain ⟨o', ho'⟩ := reads_there r _ z
    exact absurd (Heap.lt_size ho') (Nat.lt_irrefl _)⟩
  refine wpAny_bind (wpAny_holding (wpAny_mono (PySem.W.list_sort_data (s := { s with heap := h'.push (seqObj "list" (bs.map Value.ref).toArray 0), toks := tk }) (A := X.A.in1)
    (Q := fun v s' => EP X pins σ Q (.ref h'.objs.size) s') (R := Rz) (enc := encZ) hoL e1 er (by rw [em]; exact hal.1) (by rw [em]; exact sortable_of hk ht) (by rw [hlen, sizeLine_eq]; exact hn) (fun b hb => ?_) fun out ho2 hout => ?_) (fun _ s' x => ?_) fun _ _ e => e))
  · have hm : b.2 ∈ l := by rw [← z1]; exact List.mem_map.mpr ⟨b, hb, rfl⟩
    have h1 : (encZ b).depth ≤ PyData.depthAll (toPDL l) := by
      rw [toPDL_map]
      exact PyData.depth_le_depthAll _ _ (List.mem_map.mpr ⟨b.2, hm, rfl⟩)
    show X.A.units + 1 + 1 + (encZ b).depth < cLine
    omega
  · obtain ⟨e', he'⟩ := PyProof.Rows.sortedHeap_at (vs := bs.map Value.ref) (out := List.toArray out) hoL
    have hlen2 : (sortW bs l).length ≤ sizeLine := by
      unfold sortW
      rw [List.length_map, (List.mergeSort_perm _ _).length_eq, hlen, sizeLine_eq]
      exact hn
    refine ⟨.ref h'.objs.size, _, I1.laid (t' := tk) (fun b u e => ?_) (Nat.le_refl _) (show ObjOk X.prog X.w _ _ _ (.lst _) from ⟨hlen2, out, e', vals_each hout, he'⟩), rfl, q bs _ pb (I1.hok.fresh (Nat.le_refl _))⟩
    have hb : b < h'.objs.size := Heap.lt_size e
    rw [PyProof.Rows.sortedHeap_old (Nat.ne_of_lt hb) (by rw [size_push']; exact Nat.lt_succ_of_lt hb)]
    exact Heap.get?_push_of_some _ e
  · exact wpAny_pure ⟨_, rfl, x⟩
theorem RepT.keysT {G : Hp} {hs : List Addr} : ∀ {kvs : List (D × D)} {l : List (List Key × V)}, RepT K M G hs kvs l → kvs.map (·.1) = l.map fun x => keyT x.1
  | [], l, h => by rw [repT_nil] at h; subst h; rfl
  | (k, d) :: kvs, l, h => by
    rw [repT_cons] at h
    obtain ⟨k', v, vr, rfl, h1, h2, h3⟩ := h
    rw [List.map_cons, List.map_cons, RepT.keysT h3, h1]
def sortTDO : List D → Option D
  | [.dit kvs] => if sortOk (kvs.map (·.1)) = true then some (.lst (sortD (kvs.map (·.1)))) else none
  | _ => none
theorem cd_sortTD (hcalm : X.calm = true) (hu : X.A.units + 65 < cLine) : CallD M X (.builtin "sorted") sortTDO := by
  refine ⟨_, cr_sortKT (M := M) hcalm hu, fun G hs s H ds z vs Q J hv e k => ?_⟩
  unfold sortTDO at e
  split at e
  · rename_i kvs
    split at e
    · rename_i hk
      cases e
      obtain ⟨v, rfl, h⟩ := hv.one
      obtain ⟨a, l, rfl, h1, r⟩ := h.dit J
      rw [r.keysT] at hk k
      refine ⟨a, l, rfl, h1, hk, fun bs p pb hp => ?_⟩
      obtain ⟨G2, S2, J2, e2⟩ := adopt J pb
      have rl : RepL X.K M G2 hs (l.map fun x => keyT x.1) (bs.map V.ref) := repL_keysT e2
      have hr : RepL X.K M G2 hs (sortD (l.map fun x => keyT x.1)) (sortW bs (l.map fun x => keyT x.1)) := by
        obtain ⟨z1, z2⟩ := zip_facts rl
        have hp : (((bs.map V.ref).zip (l.map fun x => keyT x.1)).mergeSort (PySem.W.dataLe false encZ)).Perm ((bs.map V.ref).zip (l.map fun x => keyT x.1)) := List.mergeSort_perm _ _
        have := repL_pairs (K := X.K) (M := M) (G := G2) (hs := hs) (bs := ((bs.map V.ref).zip (l.map fun x => keyT x.1)).mergeSort (PySem.W.dataLe false encZ)) fun b hb => z2 b (hp.mem_iff.mp hb)
        rwa [sort_map, z1] at this
      exact k _ _ (S2.trans (J2.laid hp).1) (J2.laid hp).2 _ (rep_newL (J2.free hp).1 hr)
    · cases e
  · cases e
end
end DL
set_option Elab.async false
set_option linter.all false
set_option maxRecDepth 100000
set_option maxHeartbeats 4000000
namespace DL
open PySem PySem.Spec PyProof.Rows L2
section
variable {M : Mp} {X : Cx} {W : WX} {K : PySem.W.Frag} {o e c : Expr} {fa fb fc : Env → DS → R D} {g : Env → DS → R (List D)} {apos cpos pos p : Pos}
def isDit : D → Bool
  | .dit _ => true
  | _ => false
def get2TO : D → D → D → Option D
  | .dit kvs, k, x => if isKeyT k = true then some ((valT kvs k).getD x) else none
  | _, _, _ => none
def getT2 (fo fk fx : Env → DS → R D) : Env → DS → R D := fun η s => (fo η s).bind fun x s1 => if isDit (deref s1 x) = true then (fk η s1).bind fun k s2 => (fx η s2).bind fun y s3 => R.ofO (get2TO (deref s3 x) (deref s3 k) y) s3 else .bad
/-- a new dict of that kind -/
theorem fr_dit {G H : Hp} {hs : List Addr} {s : DS} {q : Addr} {kvs : List (D × D)} {l : List (List Key × V)} (J : Sim K M G hs s H) (h0 : H q = none) (r : RepT K M G hs kvs l) : Stp M G hs H G hs (upd H q (.dT l)) ∧ Sim K M G hs s (upd H q (.dT l)) ∧ Fr1 K M G hs (upd H q (.dT l)) (.dit kvs) q := by
  have k : ∀ a u, H a = some u → upd H q (.dT l) a = some u := fun a u e => by rw [upd_ne (ne_of_none e h0)]; exact e
  exact ⟨Stp.extH k, J.extH k, ⟨⟨l, upd_same, r⟩, (J.free h0).1, (J.free h0).2.1, (J.free h0).2.2⟩⟩
def dnewTD : Env → DS → R D := fun _ s => .ok (.dit []) s
def mergeV (acc : List (List Key × V)) (l : List (List Key × V)) : List (List Key × V) := l.foldl (fun acc x => L2.putK acc x.1 x.2) acc
theorem kt_all {H : Hp} : ∀ {l : List (List Key × V)} {ys : List (List Key × Addr × Value)} {acc : List (List Key × V)} {xs : List (List Key × Addr × Value)}, KT H acc xs → KT H l ys → KT H (mergeV acc l) (storedAllH xs ys)
  | _, _, _, _, h, .nil => h
  | x :: l, y :: ys, acc, xs, h, .cons g t => by
    obtain ⟨g1, g2, g3⟩ := g
    have h1 := h.put x.1 g2 g3
    have h2 := kt_all (l := l) (ys := ys) (acc := L2.putK acc x.1 x.2) (xs := storedH xs x.1 y.2.1 y.2.2) h1 t
    rw [g1] at h2
    have e : mergeV acc (x :: l) = mergeV (L2.putK acc y.1 x.2) l := by rw [← g1]; rfl
    rw [e]
    exact h2
theorem pairs_ofT2 {pins : List (Addr × Obj)} {σ : L2.St} {H : Hp} {s : Shared} (I : Inv X pins σ H s) : ∀ {ps : List Addr} {l : List (List Key × Addr × V)}, Paired (fun p (x : List Key × Addr × V) => SqT X.K H p [V.ref x.2.1, x.2.2] ∧ H x.2.1 = some (.tup (x.1.map kV))) ps l →
    ∃ ys : List (List Key × Addr × Value), KT H (l.map fun x => (x.1, x.2.2)) ys ∧ ys.length = ps.length ∧ (∀ y ∈ ys, H y.2.1 = some (.tup (y.1.map kV))) ∧ ∀ (j : Nat) (q : List Key × Addr × Value), ys[j]? = some q → ∃ b : Addr, ps[j]? = some b ∧ IsTup s.heap b #[Value.ref q.2.1, q.2.2]
  | _, _, .nil => ⟨[], .nil, rfl, by simp, fun j q e => by simp at e⟩
  | _, _, .cons (a := p) (b := x) h t => by
    obtain ⟨ys, e1, e2, e3, e4⟩ := pairs_ofT2 I t
    obtain ⟨its, rv, ht, _⟩ := I.tuple h.1
    obtain ⟨u, y, ei, ru, ry⟩ := vals2 rv
    subst ei
    cases (show u = Value.ref x.2.1 from ru)
    refine ⟨(x.1, x.2.1, y) :: ys, .cons ⟨rfl, h.2, ry⟩ e1, by rw [List.length_cons, List.length_cons, e2], fun z hz => ?_, fun j q e => ?_⟩
    · rcases List.mem_cons.mp hz with rfl | hz
      · exact h.2
      · exact e3 z hz
    · cases j with
      | zero =>
        have e' : (x.1, x.2.1, y) = q := Option.some.inj e
        subst e'
        exact ⟨p, rfl, ht⟩
      | succ j =>
        obtain ⟨b, k1, k2⟩ := e4 j q (by simpa using e)
        exact ⟨b, by simpa using k1, k2⟩
def tDictT (K : PySem.W.Frag) (ta : TA) : TE := fun σ H Q => ta σ H fun vs H1 => ∃ (a : Addr) (ps : List Addr) (l : List (List Key × Addr × V)), vs = [.ref a] ∧ SqL K H1 a (ps.map V.ref) ∧ Paired (fun p (x : List Key × Addr × V) => SqT K H1 p [V.ref x.2.1, x.2.2] ∧ H1 x.2.1 = some (.tup (x.1.map kV))) ps l ∧
  ∀ q, H1 q = none → Q (.ref q) (upd H1 q (.dT (mergeV [] (l.map fun x => (x.1, x.2.2)))))
theorem pe_dictT {e : Expr} {ta : TA} (hcalm : X.calm = true) (hu : X.A.units + 65 < cLine) (hg : Gl X "dict") (hm : X.mg "dict" = none) (ha : PA X [e] ta)
    (hs : starEach [e] X.env = (false, eval e X.env) :: starEach [] X.env := by rfl) (hpl : (backTo pos (starEach [] X.env)).any (·.1) = false := by rfl) : PE X (.Call (.Name "dict" p) [e] [] pos) (tDictT X.K ta) := by
  refine ⟨fun pins s σ H R I h => ?_⟩
  refine wpAny_Call_Name_kw (ld_blt I hg hm PyProof.Rows.boot_dict (PyProof.Rows.callWith_type1 (thn (ha.run pos pins s σ H _ I h) fun us s1 ⟨vs, H1, I1, r1, q1⟩ => ?_) hs hpl))
  obtain ⟨a, ps, l, ex, hq, hp, q⟩ := q1
  subst ex
  obtain ⟨u, eu, rx⟩ := vals1 r1
  subst eu
  cases rx
  obtain ⟨its, rv, pl, hz⟩ := I1.list hq
  have ei := refs_at rv
  subst ei
  rw [List.length_map] at hz
  obtain ⟨ys, y1, y2, y3, y4⟩ := pairs_ofT2 I1 hp
  obtain ⟨o, n, ho, hc, hd, hdat⟩ := pl
  have his : ∀ h', (∀ b ob, s1.heap.get? b = some ob → h'.get? b = some ob) → ∀ x ∈ ys, (tupleKind (mixKind X.prog X.w)).is h' x.1 x.2.1 := fun h' k x hx => key_of (HOk.kept I1.hok k) (y3 x hx)
  refine call_dict_pairsH (knd := tupleKind (mixKind X.prog X.w)) (ps := ys) (PySem.PairArg.list a (ps.map Value.ref).toArray (fun j => ps.getD j 0) (ys.map fun x => (Value.ref x.2.1, x.2.2))) (I1.ok.hd hcalm) (show (X.A.in1.in1).units < cLine from ?_) ⟨⟨o, n, ho, hc, hd, hdat⟩, ⟨by simp [y2], fun j k v e => ?_⟩⟩ ⟨by simp, fun i k v e => ?_⟩ (fun h' k x hx => ?_) (by simpa [y2] using hz) fun h' tk hd' k => ?_
  · show X.A.units + 1 + 1 < cLine
    omega
  · rw [List.getElem?_map] at e
    obtain ⟨q', e1, e2⟩ := Option.map_eq_some_iff.mp e
    cases e2
    obtain ⟨b, k1, ob, k2, k3, m, k4⟩ := y4 j q' e1
    have hb : ps.getD j 0 = b := by rw [List.getD_eq_getElem?_getD, k1]; rfl
    refine ⟨by simp [k1, hb], .inl ⟨ob, ?_, k3, m, k4⟩⟩
    show s1.heap.get? (ps.getD j 0) = some ob
    rw [hb]
    exact k2
  · have e : (ys.map fun x => (Value.ref x.2.1, x.2.2))[i]? = some (k, v) := e
    rw [List.getElem?_map] at e
    obtain ⟨q', e1, e2⟩ := Option.map_eq_some_iff.mp e
    cases e2
    exact ⟨q'.1, q'.2.1, e1, rfl⟩
  · have kk : ∀ b ob, s1.heap.get? b = some ob → h'.get? b = some ob := fun b ob e => k b ob (Nat.ne_of_lt (Heap.lt_size e)) (by simp) e
    exact his h' kk x hx
  · have kk : ∀ b ob, s1.heap.get? b = some ob → h'.get? b = some ob := fun b ob e => k b ob (by simp) e
    obtain ⟨od, es, ep, ho2, hc2, hd2, hes, _, hnd⟩ := hd'
    have hm2 : (s1.heap.objs.size == sysModules) = false := beq_eq_false_iff_ne.mpr (Nat.ne_of_gt I1.big)
    have hlt : s1.heap.objs.size < h'.objs.size := Heap.lt_size ho2
    have kt : KT H1 (mergeV [] (l.map fun x => (x.1, x.2.2))) (storedAllH [] ys) := kt_all .nil y1
    have hf : H1 s1.heap.objs.size = none := I1.hok.fresh (Nat.le_refl _)
    have llen : (mergeV [] (l.map fun x => (x.1, x.2.2))).length ≤ ps.length := by
      have key : ∀ (l acc : List (List Key × V)), (mergeV acc l).length ≤ acc.length + l.length := fun l => by
        induction l with
        | nil => intro acc; exact Nat.le_refl _
        | cons x l ih =>
          intro acc
          have h1 := ih (L2.putK acc x.1 x.2)
          have h2 : (L2.putK acc x.1 x.2).length ≤ acc.length + 1 := by
            unfold L2.putK
            split
            · rw [List.length_map]; omega
            · rw [List.length_append]; exact Nat.le_refl _
          have e : mergeV acc (x :: l) = mergeV (L2.putK acc x.1 x.2) l := rfl
          rw [e, List.length_cons]
          omega
      have h1 := key (l.map fun x => (x.1, x.2.2)) []
      have h2 := Paired.length hp
      rw [List.length_map] at h1
      have h1 : (mergeV [] (l.map fun x => (x.1, x.2.2))).length ≤ 0 + l.length := h1
      omega
    refine ⟨.ref s1.heap.objs.size, _, I1.laid (t' := tk) (o := .dT (mergeV [] (l.map fun x => (x.1, x.2.2)))) kk (Nat.le_refl _) ?_, rfl, q _ hf⟩
    refine ⟨by omega, hm2, storedAllH [] ys, kt.keeps fun b vs e => ?_, od, es, ep, ho2, hc2, hd2, hes, hnd⟩
    · rw [upd_ne (ne_of_none e hf)]
      exact e
theorem at_dit {H : Hp} {G : Hp} {hs : List Addr} {p : Addr} {kvs : List (D × D)} (h : At K M G hs H p (.dit kvs)) : ∃ l, H p = some (.dT l) ∧ RepT K M G hs kvs l := h
theorem lock_repT {G : Hp} {hs : List Addr} {p : Addr} {kvs : List (D × D)} {l : List (List Key × V)} {od : Obj} (g : G p = none) (h : RepT K M G hs kvs l) : Rep K M (upd G p (.frz od (.dT l))) hs (.dit kvs) (.ref p) :=
  rep_dit.mpr ⟨p, od, l, rfl, upd_same, h.mono (same_upd g) (Pre.refl _)⟩
/-- a new dict, as a thing that stays -/
def calmDT (f : Env → DS → R D) : Env → DS → R D := fun η s => (f η s).bind fun d s1 => if isDit d = true then .ok d s1 else .bad
theorem DF.deDT {e : Expr} {f : Env → DS → R D} (h : DF M X W e f) : DE M X W e (calmDT f) := by
  obtain ⟨t, p, h⟩ := h.ex
  refine ⟨_, pe_plock p, fun A σ H G hs own η s Q I hp => h A σ H G hs own η s _ I ?_⟩
  unfold calmDT at hp
  cases q : f η s with
  | ok d s1 =>
    rw [q] at hp
    have hp2 : RPost X.K M σ W G hs H (if isDit d = true then R.ok d s1 else .bad) (fun d G' hs' _ H' => ∀ v, Rep X.K M G' hs' d v → Q v H') := hp
    intro G1 hs1 H1 S1 J1 p hp0 fr
    cases d with
    | dit kvs =>
      obtain ⟨l, hl, hr⟩ := at_dit fr.at_
      refine ⟨p, _, hl, trivial, fun od => ?_⟩
      have S2 := (S1.poke (o := .frz od (.dT l)) hp0).still (o := .frz od (.dT l)) hp0 fr.g
      have J2 := (J1.poke (o := .frz od (.dT l)) hl (fun f z => by cases f <;> cases z) fr.h fr.g fr.t).still upd_same fr.h fr.t fr.g (fun ps z => by cases z)
      exact hp2 _ hs1 _ S2 J2 _ (lock_repT fr.g hr)
    | _ => exact hp2.elim
  | ex c p s1 => rw [q] at hp; exact hp
  | bad => rw [q] at hp; exact hp
/-- a name that owns a dict owns it no more -/
def frzDTB (i : Nat) (g : Env → DS → F) : Env → DS → F := fun η s => match η[i]? with
  | some (.o (.dit kvs)) => g (η.set i (.v (.dit kvs))) s
  | _ => .bad
def pairsT : List D → Option (List (D × D))
  | [] => some []
  | .tup [k, v] :: r => if isKeyT k = true then (pairsT r).map ((k, v) :: ·) else none
  | _ => none
def mergeTD (acc l : List (D × D)) : List (D × D) := l.foldl (fun acc x => putT acc x.1 x.2) acc
theorem pairs_RT {G H : Hp} {hs : List Addr} (m : M.raw = true) (sm : Same G H) : ∀ {l : List D} {vs : List V} {ks : List (D × D)}, RepL K M G hs l vs → pairsT l = some ks → ∃ (ps : List Addr) (xs : List (List Key × Addr × V)), vs = ps.map V.ref ∧ Paired (fun p (x : List Key × Addr × V) => SqT K H p [V.ref x.2.1, x.2.2] ∧ H x.2.1 = some (.tup (x.1.map kV))) ps xs ∧ RepT K M G hs ks (xs.map fun x => (x.1, x.2.2))
  | [], vs, ks, h, e => by
    rw [repL_nil] at h
    cases e
    exact ⟨[], [], h, Paired.nil, repT_nil.mpr rfl⟩
  | d :: l, vs, ks, h, e => by
    rw [repL_cons] at h
    obtain ⟨v, vr, rfl, h1, h2⟩ := h
    unfold pairsT at e
    split at e
    · rename_i heq; cases heq
    · rename_i k x r heq
      cases heq
      split at e
      · rename_i hk
        obtain ⟨kr, er, rfl⟩ := Option.map_eq_some_iff.mp e
        obtain ⟨kk, ek⟩ := isKeyT_some hk
        obtain ⟨ps, xs, rfl, hp, hr⟩ := pairs_RT m sm h2 er
        obtain ⟨q, ws, rfl, t1, t2⟩ := rep_tup h1
        rw [repL_cons] at t2
        obtain ⟨w1, wr, rfl, u1, t2⟩ := t2
        rw [repL_cons] at t2
        obtain ⟨w2, wr, rfl, u2, t2⟩ := t2
        rw [repL_nil] at t2
        subst t2
        obtain ⟨b, rfl, hb⟩ := Rep.keyT m u1 ek
        exact ⟨q :: ps, (kk, b, w2) :: xs, rfl, Paired.cons ⟨same_seqT sm t1, sm _ _ hb⟩ hp, repT_cons.mpr ⟨kk, w2, _, rfl, toKT_some ek, u2, hr⟩⟩
      · cases e
    · cases e
theorem RepT.merge {G : Hp} {hs : List Addr} : ∀ {kvs : List (D × D)} {kl : List (List Key × V)} {acc : List (D × D)} {av : List (List Key × V)}, RepT K M G hs acc av → RepT K M G hs kvs kl → RepT K M G hs (mergeTD acc kvs) (mergeV av kl)
  | [], kl, acc, av, h, r => by rw [repT_nil] at r; subst r; exact h
  | (k, d) :: kvs, kl, acc, av, h, r => by
    rw [repT_cons] at r
    obtain ⟨kk, v, vr, rfl, h1, h2, h3⟩ := r
    subst h1
    exact RepT.merge (kvs := kvs) (kl := vr) (acc := putT acc (keyT kk) d) (av := L2.putK av kk v) (RepT.put kk h h2) h3
def dictTO : List D → Option D
  | [.lst l] => (pairsT l).map fun kvs => .dit (mergeTD [] kvs)
  | _ => none
theorem df_dictT (hcalm : X.calm = true) (hu : X.A.units + 65 < cLine) (hm : X.mg "dict" = none) (ha : DAB M X W [e] g) (m : M.raw = true := by rfl) (hg : Gl X "dict" := by rfl)
    (hs : starEach [e] X.env = (false, eval e X.env) :: starEach [] X.env := by rfl) (hpl : (backTo pos (starEach [] X.env)).any (·.1) = false := by rfl) : DF M X W (.Call (.Name "dict" p) [e] [] pos) (bltD dictTO g) := by
  obtain ⟨t, pa, ha⟩ := ha.ex
  refine ⟨_, pe_dictT hcalm hu hg hm pa hs hpl, fun A σ H G hs own η s Q I hp => ?_⟩
  refine ha A σ H G hs own η s _ I (hp.bind.mono fun ds G1 hs1 s1 H1 S1 J1 h1 vs hvs => ?_)
  obtain ⟨z, e, k⟩ := h1.ofO
  have hv := hvs.read J1
  generalize ds.map (deref s1) = dd at *
  unfold dictTO at e
  split at e
  · obtain ⟨kvs, e1, rfl⟩ := Option.map_eq_some_iff.mp e
    obtain ⟨v, rfl, h⟩ := hv.one
    obtain ⟨a, ws, rfl, h1, r⟩ := h.lst J1
    obtain ⟨ps, kl, rfl, hp1, hr⟩ := pairs_RT m J1.sub r e1
    refine ⟨a, ps, kl, rfl, SqL.of h1, hp1, fun q hq => ?_⟩
    obtain ⟨S2, J2, f⟩ := fr_dit J1 hq ((repT_nil.mpr rfl).merge hr)
    exact k G1 hs1 _ S2 J2 q (S1.dm q (nt_none hq)) f
  · cases e
end
theorem getT2_eq {fo fk fx : Env → DS → R D} {η : Env} {s : DS} : getT2 fo fk fx η s = (fo η s).bnd fun x s1 => if isDit (deref s1 x) = true then (fk η s1).bnd fun k s2 => (fx η s2).bnd fun y s3 => R.ofO (get2TO (deref s3 x) (deref s3 k) y) s3 else .bad := by
  unfold getT2
  rfl
theorem get2TO_d {kvs : List (D × D)} {k x : D} : get2TO (.dit kvs) k x = if isKeyT k = true then some ((valT kvs k).getD x) else none := rfl
theorem isDit_d {kvs : List (D × D)} : isDit (.dit kvs) = true := rfl
theorem dnewTD_eq {η : Env} {s : DS} : dnewTD η s = .ok (.dit []) s := rfl
theorem dictTO_l {l : List D} : dictTO [.lst l] = (pairsT l).map fun kvs => .dit (mergeTD [] kvs) := rfl
theorem sortTDO_d {kvs : List (D × D)} : sortTDO [.dit kvs] = if sortOk (kvs.map (·.1)) = true then some (.lst (sortD (kvs.map (·.1)))) else none := rfl
def calmDTK (d : D) (s : DS) : R D := if isDit d = true then .ok d s else .bad
theorem calmDT_eq {f : Env → DS → R D} {η : Env} {s : DS} : calmDT f η s = (f η s).bnd calmDTK := rfl
theorem calmDTK_d {kvs : List (D × D)} {s : DS} : calmDTK (.dit kvs) s = .ok (.dit kvs) s := rfl
def frzDTK (g : Env → DS → F) (η : Env) (s : DS) (i : Nat) : Option Sl → F
  | some (.o (.dit kvs)) => g (η.set i (.v (.dit kvs))) s
  | _ => .bad
theorem frzDTB_eq {i : Nat} {g : Env → DS → F} {η : Env} {s : DS} : frzDTB i g η s = frzDTK g η s i η[i]? := by
  unfold frzDTB
  generalize η[i]? = o
  cases o with
  | none => rfl
  | some x => cases x with
    | o d => cases d <;> rfl
    | _ => rfl
theorem frzDTK_d {i : Nat} {g : Env → DS → F} {η : Env} {s : DS} {kvs : List (D × D)} : frzDTK g η s i (some (.o (.dit kvs))) = g (η.set i (.v (.dit kvs))) s := rfl
end DL
set_option Elab.async false
set_option linter.all false
set_option maxRecDepth 100000
set_option maxHeartbeats 4000000
namespace DL
open PySem PySem.Spec PyProof PyProof.Rows L2
section
variable {M : Mp} {X : Cx} {W : WX} {K : PySem.W.Frag}
theorem con_sqT {l : List Str} {n : Nat} {a : Addr} (hc : conB K n (.tup (l.map D.str)) (.ref a) = true) (H : Hp) : SqT K H a (l.map V.str) := by
  let M0 : Mp := { cls := fun _ => 0, flds := fun _ => [], exc := fun _ => 0, row := "", raw := false, tabs := { l := [], kq := none, kn := fun _ _ => "" } }
  obtain ⟨v, r1, r2⟩ := con_rep (M := M0) rfl n (.tup (l.map D.str)) (.ref a) hc
  obtain ⟨b, vs, rfl, h1, h2⟩ := rep_tup (r2 (fun _ => none) [])
  cases (show Value.ref a = Value.ref b from r1)
  rw [repL_strs h2] at h1
  exact same_seqT (fun _ _ z => by cases z) h1
theorem flt_strsC {a : Str} {l : List Str} : flt (.str a) (l.map D.str) = true := by
  unfold flt
  have : (l.map D.str).all isS = true := by
    rw [List.all_map]
    exact List.all_eq_true.mpr fun _ _ => rfl
  rw [this]
  rfl
theorem any_strsC {a : Str} : ∀ l : List Str, ((l.map D.str).any fun y => eqB y (.str a)) = decide (a ∈ l)
  | [] => rfl
  | b :: l => by
    rw [List.map_cons, List.any_cons, any_strsC l]
    have e : eqB (.str b) (.str a) = decide (b = a) := rfl
    rw [e]
    by_cases h : b = a
    · subst h; simp
    · have h2 : ¬ a = b := fun z => h z.symm
      simp [h, h2]
def inCO (neg : Bool) (l : List Str) : D → Option D
  | .str a => some (.bl (if neg then !(decide (a ∈ l)) else decide (a ∈ l)))
  | _ => none
theorem inC_run {neg : Bool} {l : List Str} {a : Addr} {n : Nat} {ta : TE} {fa : Env → DS → R D} (ka : BEx M X W ta fa) (hc : conB X.K n (.tup (l.map D.str)) (.ref a) = true)
    {A : Anc} {σ : L2.St} {H G : Hp} {hs : List Addr} {own : Nat → Addr} {η : Env} {s : DS} {Q : VK} (I : Sm X.K M A σ H G hs own η s) (hp : RPost X.K M σ W G hs H (uopD (inCO neg l) fa η s) (fun d G' hs' _ H' => ∀ v, Rep X.K M G' hs' d v → Q v H')) :
    tOp (rIn X.K neg) ta (tC (.ref a)) σ H Q := by
  show ta σ H fun x H1 => rIn X.K neg x (.ref a) H1 Q
  refine ka A σ H G hs own η s _ I (hp.bind.mono fun x G1 hs1 s1 H1 S1 J1 h1 v hv => ?_)
  obtain ⟨z, e, k⟩ := h1.ofO
  have hv := hv.read J1
  unfold inCO at e
  split at e
  · rename_i b hb
    cases e
    rw [hb] at hv
    obtain ⟨i1, i2, i3⟩ := in_flat (flt_strsC (a := b) (l := l)) (hv.flt (s := s1) (flt_strsC (l := l))) (repL_ofStrs (K := X.K) (M := M) (G := G1) (hs := hs1) (ys := l))
    rw [any_strsC] at i3
    refine ⟨a, l.map V.str, rfl, .inr (con_sqT hc H1), i1, i2, ?_⟩
    rw [i3]
    exact k G1 hs1 H1 (Stp.refl _ _ _ _) J1 _ (rep_bl.mpr rfl)
  · cases e
theorem dt_ninC {x : Str} {l : List Str} {n : Nat} {e : Expr} {a : Addr} {fa : Env → DS → R D} {px pos : Pos} (he : DB M X W e fa) (hx : X.mg x = some (.ref a)) (hc : conB X.K n (.tup (l.map D.str)) (.ref a) = true) (hgx : Gl X x := by rfl) (hdx : (x == ("__debug__" : Str)) = false := by decide) :
    DT M X W (.Compare e [.NotIn] [.Name x px] pos) (tstD (uopD (inCO true l) fa)) := by
  obtain ⟨ta, pa, ka⟩ := he.ex
  exact ⟨_, pt_cmpR op_notIn_seq pa (pe_glob (v := .ref a) hgx hx rfl hdx) rfl, fun A σ H G hs own η s Q I hp => tst_run (f := uopD (inCO true l) fa) (fun Q hp => inC_run ka hc I hp) hp⟩
end
theorem inCO_s {neg : Bool} {l : List Str} {a : Str} : inCO neg l (.str a) = some (.bl (if neg then !(decide (a ∈ l)) else decide (a ∈ l))) := rfl
section
variable {X : Cx} {CX : CXT} {k : Nat} {f C : Addr} {fd : FuncData} {ps : List Str} {sp : Sp} {E : L2.St → XK} {x : Str} {p pos : Pos} {e : Expr} {es : List Expr} {t : TA}
theorem run_makeS {pins : List (Addr × Obj)} {σ : L2.St} {H : Hp} {s : Shared} {Q : VK} {us : List Value} {vs : List V} (M : Mk X.K C f) (F : FnOk X.prog X.w X.K X.mg X.base CX k f fd ps sp) (hr : Room (k + 1) X.A) (hb : Binds X.K fd ps [])
    (hx : PassesAt CX X σ (E σ)) (I : Inv X pins σ H s) (r : Vals vs us)
    (h : ∀ x dx, H x = none → H dx = none → dx ≠ x → sp (.ref x :: vs) (upd (upd H dx (.own x)) x (.ins C dx [])) (fun v H2 => v = .non ∧ Q (.ref x) H2) (E σ)) :
    wpAny (model X.prog X.w) X.A (call (.ref C) us) (EP X pins σ Q) X.xe s := by
  have hq := h (s.heap.objs.size + 1) s.heap.objs.size (I.hok.fresh (Nat.le_succ _)) (I.hok.fresh (Nat.le_refl _)) (Nat.ne_of_lt (Nat.lt_succ_self _))
  have I2 := Inv.made (C := C) I
  have r2 : Vals (V.ref (s.heap.objs.size + 1) :: vs) (Value.ref (s.heap.objs.size + 1) :: us) := .cons rfl r
  have hl : (Value.ref (s.heap.objs.size + 1) :: us).length = ps.length := by
    have e := r2.length
    rw [F.len _ _ _ _ hq] at e
    exact e.symm
  have b := hb _ (Value.ref (s.heap.objs.size + 1) :: us) I2.kIn (by rw [List.append_nil]; exact hl)
  rw [List.append_nil] at b
  refine wpAny_call (make_map (f := f) I.kIn M.makes M.init (beq_iff_eq.mp M.fn) (codeAny_mono (F.run _ X.stack _ _ ⟨Value.ref (s.heap.objs.size + 1) :: us, []⟩ (Value.ref (s.heap.objs.size + 1) :: us) _ _ (E σ) (hr.make C us [])
    (I2.env0.make C us []) b r2 hq) fun r s' hq' => ?_))
  cases r with
  | error e => exact hx pins _ _ e s' I2 hq'
  | ok fl =>
    cases fl with
    | ret u =>
      obtain ⟨v, H', I3, rv, ev, q3⟩ := I2.after hq'
      subst ev
      exact ⟨rv, ⟨V.ref (s.heap.objs.size + 1), H', I3, rfl, q3⟩⟩
    | next => exact False.elim hq'
    | brk => exact False.elim hq'
    | cont => exact False.elim hq'
def tMakeS (C : Addr) (sp : Sp) (E : L2.St → XK) (t : TA) : TE := fun σ H Q => t σ H fun vs H1 => ∀ x dx, H1 x = none → H1 dx = none → dx ≠ x → sp (.ref x :: vs) (upd (upd H1 dx (.own x)) x (.ins C dx [])) (fun v H2 => v = .non ∧ Q (.ref x) H2) (E σ)
theorem pe_makeS (M : Mk X.K C f) (F : FnOk X.prog X.w X.K X.mg X.base CX k f fd ps sp) (hr : Room (k + 1) X.A) (hg : Gl X x) (hm : X.mg x = some (.ref C)) (hb : Binds X.K fd ps []) (hx : ∀ σ, PassesAt CX X σ (E σ))
    (ha : PA X (e :: es) t) (hdb : (x == ("__debug__" : Str)) = false := by decide) (he : starEach (e :: es) X.env = (false, eval e X.env) :: starEach es X.env := by rfl) (hpl : (backTo pos (starEach es X.env)).any (·.1) = false := by rfl) :
    PE X (.Call (.Name x p) (e :: es) [] pos) (tMakeS C sp E t) := by
  refine ⟨fun pins s σ H Q I h => ?_⟩
  refine wpAny_Call_Name_kw (ld_glob I hg hm ?_ hdb)
  refine PySem.W.callWith_K (h₀ := X.base) I.ok.mod.kin M.kp (thn (ha.run pos pins s σ H _ I h) fun us s1 ⟨vs, H1, I1, r, q⟩ => ⟨I1.kIn, ?_⟩) he hpl
  exact run_makeS M F hr hb (hx σ) I1 r q
end
section
variable {M : Mp} {X : Cx} {W : WX} {x : Str} {e : Expr} {es : List Expr} {p pos : Pos} {fa : Env → DS → R (List D)}
theorem de_makeTH {k c : Nat} {f : Addr} {fd : FuncData} {ps : List Str} {n : Nat} {g : List D → DS → R D} (F : FnOk X.prog X.w X.K X.mg X.base (L2.CX X.prog X.w) k f fd ps (SpIH X.K M c (n + 1) g)) (hb : Binds X.K fd ps []) (mk : Mk X.K (M.cls c) f) (hm : X.mg x = some (.ref (M.cls c))) (hr : Room (k + 1) X.A) (tk : Takes X W) (ha : DA M X W (e :: es) fa)
    (hg : Gl X x := by rfl) (hdb : (x == ("__debug__" : Str)) = false := by decide) (he : starEach (e :: es) X.env = (false, eval e X.env) :: starEach es X.env := by rfl) (hpl : (backTo pos (starEach es X.env)).any (·.1) = false := by rfl) :
    DE M X W (.Call (.Name x p) (e :: es) [] pos) (callD (gateD n g) fa) := by
  obtain ⟨t, pt, h⟩ := ha.ex
  refine ⟨_, pe_makeS (E := WE W) mk F hr hg hm hb (fun σ => passAt tk σ) pt hdb he hpl, fun A σ H G hs own η s Q I hp => ?_⟩
  refine h A σ H G hs own η s _ I (hp.bind.mono fun ds G1 hs1 s1 H1 S1 J1 h1 vs hvs x dx hx hdx hne => ?_)
  unfold gateD at h1
  split at h1
  · rename_i hl
    refine ⟨G1, hs1, s1, ds, x, dx, H1, vs, rfl, hx, hdx, hne, rfl, J1, hvs, by rw [hl], ?_⟩
    refine (h1.sig (E := WE W σ) (fun _ _ _ z => z)).mono fun d G2 hs2 s2 H2 S2 J2 h2 fr => ⟨rfl, h2 _ fr⟩
  · exact h1.elim
end
section
variable {M : Mp} {X : Cx} {W : WX}
def opEqNT : D → D → Option D
  | .tup l, .tup [] => some (.bl l.isEmpty)
  | _, _ => none
def opNeNT : D → D → Option D
  | .tup l, .tup [] => some (.bl (!l.isEmpty))
  | _, _ => none
def rEqNT (K : PySem.W.Frag) (f : Bool → Bool) : R2 := fun x y H Q => ∃ a b vs, x = .ref a ∧ y = .ref b ∧ SqT K H a vs ∧ SqT K H b [] ∧ Q (.bl (f vs.isEmpty)) H
theorem size_emp {its : List Value} {vs : List V} (h : vs.length = its.length) : ((List.range (min its.toArray.size ([] : List Value).toArray.size)).all (fun _ => true) && its.toArray.size == ([] : List Value).toArray.size) = vs.isEmpty := by
  cases vs with
  | nil =>
    have : its = [] := List.length_eq_zero_iff.mp h.symm
    subst this
    rfl
  | cons v vs =>
    cases its with
    | nil => cases h
    | cons u its => simp
theorem op_eqNT (hu : X.A.units < cLine) : OpR X (compareOp .Eq) (rEqNT X.K id) := by
  intro pins s σ H x y v u Q I rx ry h
  obtain ⟨a, b, vs, rfl, rfl, h1, h2, q⟩ := h
  obtain rfl : v = Value.ref a := rx
  obtain rfl : u = Value.ref b := ry
  obtain ⟨its, r1, p1, _⟩ := I.tuple h1
  obtain ⟨its2, r2, p2, _⟩ := I.tuple h2
  have e2 : its2 = [] := List.length_eq_zero_iff.mp r2.length.symm
  subst e2
  have done : EP X pins σ Q (.bool vs.isEmpty) s := ⟨.bl vs.isEmpty, H, I, rfl, q⟩
  have e := size_emp r1.length
  have rc := SeqAt.RcAt.tuples (A := X.A) (e := fun _ => true) p1 p2 hu (fun j _ h => absurd h (by simp))
  rw [e] at rc
  exact rc _ _ _ _ done
theorem op_neNT (hu : X.A.units < cLine) : OpR X (compareOp .NotEq) (rEqNT X.K (!·)) := by
  intro pins s σ H x y v u Q I rx ry h
  obtain ⟨a, b, vs, rfl, rfl, h1, h2, q⟩ := h
  obtain rfl : v = Value.ref a := rx
  obtain rfl : u = Value.ref b := ry
  obtain ⟨its, r1, p1, _⟩ := I.tuple h1
  obtain ⟨its2, r2, p2, _⟩ := I.tuple h2
  have e2 : its2 = [] := List.length_eq_zero_iff.mp r2.length.symm
  subst e2
  have done : EP X pins σ Q (.bool (!vs.isEmpty)) s := ⟨.bl (!vs.isEmpty), H, I, rfl, q⟩
  have e := size_emp r1.length
  have rc := SeqAt.RcNeAt.tuples (A := X.A) (e := fun _ => true) p1 p2 hu (fun j _ h => absurd h (by simp))
  rw [e] at rc
  exact rc _ _ _ _ done
theorem od_eqNT (hu : X.A.units + 64 < cLine) : OpD M X (compareOp .Eq) opEqNT := by
  refine ⟨_, op_eqNT (by omega), fun G hs s H x y z v u Q J hx hy e k => ?_⟩
  unfold opEqNT at e
  split at e
  · cases e
    obtain ⟨a, vs, rfl, h1, r1⟩ := hx.tup J
    obtain ⟨b, ws, rfl, h2, r2⟩ := hy.tup J
    cases repL_nil.mp r2
    refine ⟨a, b, vs, rfl, rfl, h1, h2, ?_⟩
    rw [show vs.isEmpty = _ from isEmpty_len r1.length]
    exact k G H (Stp.refl _ _ _ _) J _ (rep_bl.mpr rfl)
  · cases e
theorem od_neNT (hu : X.A.units + 64 < cLine) : OpD M X (compareOp .NotEq) opNeNT := by
  refine ⟨_, op_neNT (by omega), fun G hs s H x y z v u Q J hx hy e k => ?_⟩
  unfold opNeNT at e
  split at e
  · cases e
    obtain ⟨a, vs, rfl, h1, r1⟩ := hx.tup J
    obtain ⟨b, ws, rfl, h2, r2⟩ := hy.tup J
    cases repL_nil.mp r2
    refine ⟨a, b, vs, rfl, rfl, h1, h2, ?_⟩
    rw [show vs.isEmpty = _ from isEmpty_len r1.length]
    exact k G H (Stp.refl _ _ _ _) J _ (rep_bl.mpr rfl)
  · cases e
end
theorem opEqNT_t {l : List D} : opEqNT (.tup l) (.tup []) = some (.bl l.isEmpty) := rfl
theorem opNeNT_t {l : List D} : opNeNT (.tup l) (.tup []) = some (.bl (!l.isEmpty)) := rfl
end DL
set_option Elab.async false
set_option linter.all false
set_option maxRecDepth 100000
set_option maxHeartbeats 4000000
namespace DL
open PySem PySem.Spec PyProof.Rows L2
/-- a lambda's text -/
structure Lm where
  ps : Arguments
  bd : Expr
  sc : Scope
/-- a function object -/
def FunO (f : Addr) (q : Str) (l : Lm) (cl : List (Str × Addr)) (c' : Addr) : HO := .ext fun h => ∃ pm ctv, h.get? f = some (PySem.W.kla_obj "<lambda>" q l.ps l.bd l.sc cl pm c' ctv)
/-- the lambdas of a frame -/
def cloP (env : PySem.Env) (ls : List Lm) : Hp → Nat → Addr → List V → Prop := fun G n a vs => vs = [] ∧ ∃ l c', ls[n]? = some l ∧ G a = some (FunO a (env.qual ++ "<lambda>") l (cloFrom env.cells l.sc.names []) c') ∧ G c' = some (LamX.CodeO c' (env.qual ++ "<lambda>"))
theorem cloP_mono {env : PySem.Env} {ls : List Lm} (G G' : Hp) (n : Nat) (a : Addr) (vs : List V) (e : Same G G') (h : cloP env ls G n a vs) : cloP env ls G' n a vs := by
  obtain ⟨h1, l, c', h2, h3, h4⟩ := h
  exact ⟨h1, l, c', h2, e _ _ h3, e _ _ h4⟩
/-- what tells of closures -/
structure Clo where
  f : Hp → Nat → Addr → List V → Prop
  m : ∀ (G G' : Hp) (n : Nat) (a : Addr) (vs : List V), Same G G' → f G n a vs → f G' n a vs
def Clo.nil : Clo := ⟨fun _ _ _ _ => False, fun _ _ _ _ _ _ h => h⟩
def Clo.of (env : PySem.Env) (ls : List Lm) : Clo := ⟨cloP env ls, cloP_mono⟩
def Mp.wc (M : Mp) (φ : Clo) : Mp := { M with clo := φ.f, cloM := φ.m }
mutual
def noClo : D → Bool
  | .clo _ _ => false
  | .tup l => noCloL l
  | .lst l => noCloL l
  | .tup0 l => noCloL l
  | .obj _ l => noCloL l
  | .dic l => noCloP l
  | .dit l => noCloP l
  | _ => true
def noCloL : List D → Bool
  | [] => true
  | d :: l => noClo d && noCloL l
def noCloP : List (D × D) → Bool
  | [] => true
  | (_, d) :: l => noClo d && noCloP l
end
section
variable {K : PySem.W.Frag} {M : Mp} {φ ψ : Clo} {G H : Hp} {hs : List Addr}
mutual
theorem Rep.wc : ∀ (d : D) (v : V), Rep K (M.wc φ) G hs d v → noClo d = true → Rep K (M.wc ψ) G hs d v
  | .non, _, h, _ => by unfold Rep at h ⊢; exact h
  | .bl _, _, h, _ => by unfold Rep at h ⊢; exact h
  | .int _, _, h, _ => by unfold Rep at h ⊢; exact h
  | .str _, _, h, _ => by unfold Rep at h ⊢; exact h
  | .tup ds, _, h, n => by
    unfold Rep at h ⊢
    unfold noClo at n
    obtain ⟨a, vs, h1, h2, h3⟩ := h
    exact ⟨a, vs, h1, h2, RepL.wc ds vs h3 n⟩
  | .lst ds, _, h, n => by
    unfold Rep at h ⊢
    unfold noClo at n
    obtain ⟨a, vs, h1, h2, h3⟩ := h
    exact ⟨a, vs, h1, h2, RepL.wc ds vs h3 n⟩
  | .dic kvs, _, h, n => by
    unfold Rep at h ⊢
    unfold noClo at n
    obtain ⟨a, o, l, h1, h2, h3⟩ := h
    exact ⟨a, o, l, h1, h2, RepD.wc kvs l h3 n⟩
  | .obj c ds, _, h, n => by
    unfold Rep at h ⊢
    unfold noClo at n
    obtain ⟨a, dx, fs, h1, h2, h3, h4⟩ := h
    exact ⟨a, dx, fs, h1, h2, h3, RepL.wc ds _ h4 n⟩
  | .han k, _, h, _ => by
    unfold Rep at h ⊢
    exact h
  | .scr l, _, h, _ => by
    unfold Rep at h ⊢
    exact h
  | .tup0 ds, _, h, n => by
    unfold Rep at h ⊢
    unfold noClo at n
    obtain ⟨a, o, vs, h1, h2, h3, h4, h5⟩ := h
    exact ⟨a, o, vs, h1, h2, h3, h4, RepL.wc ds vs h5 n⟩
  | .dit kvs, _, h, n => by
    unfold Rep at h ⊢
    unfold noClo at n
    obtain ⟨a, o, l, h1, h2, h3⟩ := h
    exact ⟨a, o, l, h1, h2, RepT.wc kvs l h3 n⟩
  | .clo m ds, _, _, n => by
    unfold noClo at n
    cases n
theorem RepL.wc : ∀ (ds : List D) (vs : List V), RepL K (M.wc φ) G hs ds vs → noCloL ds = true → RepL K (M.wc ψ) G hs ds vs
  | [], _, h, _ => by unfold RepL at h ⊢; exact h
  | d :: ds, _, h, n => by
    unfold RepL at h ⊢
    unfold noCloL at n
    rw [Bool.and_eq_true] at n
    obtain ⟨v, vr, h1, h2, h3⟩ := h
    exact ⟨v, vr, h1, Rep.wc d v h2 n.1, RepL.wc ds vr h3 n.2⟩
theorem RepD.wc : ∀ (ds : List (D × D)) (vs : List (Key × V)), RepD K (M.wc φ) G hs ds vs → noCloP ds = true → RepD K (M.wc ψ) G hs ds vs
  | [], _, h, _ => by unfold RepD at h ⊢; exact h
  | (k, d) :: ds, _, h, n => by
    unfold RepD at h ⊢
    unfold noCloP at n
    rw [Bool.and_eq_true] at n
    obtain ⟨k', v, vr, h1, h0, h2, h3⟩ := h
    exact ⟨k', v, vr, h1, h0, Rep.wc d v h2 n.1, RepD.wc ds vr h3 n.2⟩
theorem RepT.wc : ∀ (ds : List (D × D)) (vs : List (List Key × V)), RepT K (M.wc φ) G hs ds vs → noCloP ds = true → RepT K (M.wc ψ) G hs ds vs
  | [], _, h, _ => by unfold RepT at h ⊢; exact h
  | (k, d) :: ds, _, h, n => by
    unfold RepT at h ⊢
    unfold noCloP at n
    rw [Bool.and_eq_true] at n
    obtain ⟨k', v, vr, h1, h0, h2, h3⟩ := h
    exact ⟨k', v, vr, h1, h0, Rep.wc d v h2 n.1, RepT.wc ds vr h3 n.2⟩
end
theorem At.wc {a : Addr} : ∀ {d : D}, At K (M.wc φ) G hs H a d → noClo d = true → At K (M.wc ψ) G hs H a d
  | .lst ds, ⟨vs, h1, h2⟩, n => ⟨vs, h1, RepL.wc ds vs h2 (by unfold noClo at n; exact n)⟩
  | .dic kvs, ⟨vs, h1, h2⟩, n => ⟨vs, h1, RepD.wc kvs vs h2 (by unfold noClo at n; exact n)⟩
  | .dit kvs, ⟨vs, h1, h2⟩, n => ⟨vs, h1, RepT.wc kvs vs h2 (by unfold noClo at n; exact n)⟩
  | .obj c ds, ⟨dx, fs, h1, h2, h3⟩, n => ⟨dx, fs, h1, h2, RepL.wc ds _ h3 (by unfold noClo at n; exact n)⟩
theorem noCloL_get {l : List D} {k : Nat} {d : D} (h : noCloL l = true) (e : l[k]? = some d) : noClo d = true := by
  induction l generalizing k with
  | nil => simp at e
  | cons x l ih =>
    unfold noCloL at h
    rw [Bool.and_eq_true] at h
    cases k with
    | zero => simp at e; rw [← e]; exact h.1
    | succ k => exact ih h.2 (by simpa using e)
theorem Sim.wc {s : DS} (J : Sim K (M.wc φ) G hs s H) (n : noCloL s = true) : Sim K (M.wc ψ) G hs s H :=
  ⟨J.sub, J.len, J.nd, J.hG, fun k a d e1 e2 => (J.han k a d e1 e2).wc (noCloL_get n e2), J.tab, J.tG⟩
theorem Stp.wc {G' H' : Hp} {hs' : List Addr} (S : Stp (M.wc φ) G hs H G' hs' H') : Stp (M.wc ψ) G hs H G' hs' H' := ⟨S.gg, S.fr, S.hp, S.hf, S.kp, S.dm⟩
def noCloS : Sl → Bool
  | .v d => noClo d
  | .o d => noClo d
  | .no => true
theorem noCloE_get {η : Env} {k : Nat} {x : Sl} (h : η.all noCloS = true) (e : η[k]? = some x) : noCloS x = true := List.all_eq_true.mp h x (List.mem_of_getElem? e)
theorem Sm.wc {A : Anc} {σ : L2.St} {own : Nat → Addr} {η : Env} {s : DS} (I : Sm K (M.wc φ) A σ H G hs own η s) (n : η.all noCloS = true) (m : noCloL s = true) : Sm K (M.wc ψ) A σ H G hs own η s :=
  ⟨I.sim.wc m, I.stp.wc, fun i d e => by
    obtain ⟨v, h1, h2⟩ := I.pl i d e
    exact ⟨v, h1, h2.wc d v (noCloE_get n e)⟩, fun i d e => by
    obtain ⟨h1, h2, h3, h4, h5, h6⟩ := I.ow i d e
    exact ⟨h1, h2.wc (noCloE_get n e), h3, h4, h5, h6⟩, I.inj, I.el, I.sf⟩
theorem ExR.wc {c : Nat} {p : List D} {cls : Value} {dx : Option Addr} (h : ExR K (M.wc φ) G hs H c p cls dx) (n : noCloL p = true) : ExR K (M.wc ψ) G hs H c p cls dx := by
  obtain ⟨h1, h2⟩ := h
  refine ⟨h1, ?_⟩
  rcases h2 with h2 | ⟨d, v, dd, rfl, h3, h4, h5⟩
  · exact .inl h2
  · unfold noCloL at n
    rw [Bool.and_eq_true] at n
    exact .inr ⟨d, v, dd, rfl, h3.wc d v n.1, h4, h5⟩
end
def maskS (x : Sl) : Sl := if noCloS x = true then x else .no
/-- the names that hold closures are forgotten -/
def mask (η : Env) : Env := η.map maskS
theorem mask_get {η : Env} {i : Nat} {x : Sl} (h : (mask η)[i]? = some x) (n : x ≠ .no) : η[i]? = some x ∧ noCloS x = true := by
  unfold mask at h
  rw [List.getElem?_map, Option.map_eq_some_iff] at h
  obtain ⟨y, h1, h2⟩ := h
  unfold maskS at h2
  split at h2
  · rename_i q
    subst h2
    exact ⟨h1, q⟩
  · exact absurd h2.symm n
theorem mask_all {η : Env} : (mask η).all noCloS = true := List.all_eq_true.mpr fun x hx => by
  unfold mask at hx
  obtain ⟨y, _, rfl⟩ := List.mem_map.mp hx
  unfold maskS
  split
  · assumption
  · rfl
section
variable {K : PySem.W.Frag} {M : Mp} {A : Anc} {σ : L2.St} {G H : Hp} {hs : List Addr} {own : Nat → Addr} {η : Env} {s : DS}
theorem Sm.mask (I : Sm K M A σ H G hs own η s) : Sm K M A σ H G hs own (mask η) s :=
  ⟨I.sim, I.stp, fun i d e => I.pl i d (mask_get e (fun z => by cases z)).1, fun i d e => I.ow i d (mask_get e (fun z => by cases z)).1,
    fun i j d e a b => I.inj i j d e (mask_get a (fun z => by cases z)).1 (mask_get b (fun z => by cases z)).1, by unfold DL.mask; rw [List.length_map]; exact I.el, fun x d a b => I.sf x d a (mask_get b (fun z => by cases z)).1⟩
end
def wcK : F → F
  | .nx η s => if noCloL s = true then .nx (mask η) s else .bad
  | .bk η s => if noCloL s = true then .bk (mask η) s else .bad
  | .ct η s => if noCloL s = true then .ct (mask η) s else .bad
  | .rt d s => if noClo d = true ∧ noCloL s = true then .rt d s else .bad
  | .ex c p η s => if noCloL s = true ∧ noCloL p = true then .ex c p (mask η) s else .bad
  | .bad => .bad
/-- closures may be met within, not ahead, not behind -/
def wcB (g : Env → DS → F) : Env → DS → F := fun η s => if noCloL s = true then wcK (g (mask η) s) else .bad
section
variable {M : Mp} {X : Cx} {W : WX} {φ ψ : Clo}
theorem FPost.wc {A : Anc} {E : Ends} : ∀ {r : F}, FPost X.K (M.wc φ) A W E (wcK r) → FPost X.K (M.wc ψ) A W E r
  | .nx η s, h => by
    have h : FPost X.K (M.wc φ) A W E (if noCloL s = true then .nx (mask η) s else .bad) := h
    by_cases n : noCloL s = true
    · rw [if_pos n] at h
      exact fun σ H G hs own I => h σ H G hs own (I.mask.wc mask_all n)
    · rw [if_neg n] at h
      exact h.elim
  | .bk η s, h => by
    have h : FPost X.K (M.wc φ) A W E (if noCloL s = true then .bk (mask η) s else .bad) := h
    by_cases n : noCloL s = true
    · rw [if_pos n] at h
      exact fun σ H G hs own I => h σ H G hs own (I.mask.wc mask_all n)
    · rw [if_neg n] at h
      exact h.elim
  | .ct η s, h => by
    have h : FPost X.K (M.wc φ) A W E (if noCloL s = true then .ct (mask η) s else .bad) := h
    by_cases n : noCloL s = true
    · rw [if_pos n] at h
      exact fun σ H G hs own I => h σ H G hs own (I.mask.wc mask_all n)
    · rw [if_neg n] at h
      exact h.elim
  | .rt d s, h => by
    have h : FPost X.K (M.wc φ) A W E (if noClo d = true ∧ noCloL s = true then .rt d s else .bad) := h
    by_cases n : noClo d = true ∧ noCloL s = true
    · rw [if_pos n] at h
      exact fun H G hs v S J r => h H G hs v S.wc (J.wc n.2) (r.wc d v n.1)
    · rw [if_neg n] at h
      exact h.elim
  | .ex c p η s, h => by
    have h : FPost X.K (M.wc φ) A W E (if noCloL s = true ∧ noCloL p = true then .ex c p (mask η) s else .bad) := h
    by_cases n : noCloL s = true ∧ noCloL p = true
    · rw [if_pos n] at h
      exact fun σ H G hs own cls dx I x => h σ H G hs own cls dx (I.mask.wc mask_all n.1) (x.wc n.2)
    · rw [if_neg n] at h
      exact h.elim
  | .bad, h => h
theorem dss_wc {ss : List Stmt} {g : Env → DS → F} (h : DSs (M.wc ψ) X W ss g) : DSs (M.wc φ) X W ss (wcB g) := by
  obtain ⟨t, p, h⟩ := h.ex
  refine ⟨t, p, fun A σ H G hs own η s E I hp => ?_⟩
  unfold wcB at hp
  split at hp
  · rename_i n
    exact h A σ H G hs own _ s E (I.mask.wc mask_all n) hp.wc
  · exact hp.elim
end
section
variable {X : Cx} {pins : List (Addr × Obj)} {σ : L2.St} {H H1 : Hp} {s s1 : Shared}
/-- what is new and untracked is tracked from now on -/
theorem Inv.track {f : Addr} {o : HO} (I : Inv X pins σ H s) (I1 : Inv X pins σ H1 s1) (hf : s.heap.objs.size ≤ f) (n : H1 f = none) (ob : ObjOk X.prog X.w (upd H1 f o) s1.heap f o) : Inv X pins σ (upd H1 f o) s1 := by
  have nf : ∀ b u, H1 b = some u → b ≠ f := fun b u e => ne_of_none e n
  refine I1.step (ch := [f]) (g' := s1.gens) (d' := s1.drawn) (t' := s1.toks) (h' := s1.heap) (fun b hb => ?_) (fun b u _ _ _ e _ => e) (fun b u _ _ _ e _ => ⟨u.slots, e⟩) (fun b u hb _ e => ?_) (fun b u _ e => ⟨u, e⟩) (fun b xs e => ?_) (fun b u v e => ?_) (fun b qs e => ?_) (fun m e => e) (fun b u e => ?_) I1.bare
  · rw [List.mem_singleton.mp hb]
    refine ⟨.inr (Nat.le_trans I.sz hf), fun z => ?_, fun y c e z => ?_, fun p hp z => ?_⟩
    · rw [z] at hf
      exact absurd (Nat.lt_of_lt_of_le I.lt hf) (Nat.lt_irrefl _)
    · obtain ⟨v, u, hu, _⟩ := I.cell y c e
      rw [z] at hu
      exact absurd (Nat.lt_of_lt_of_le (Heap.lt_size hu) hf) (Nat.lt_irrefl _)
    · have := (I.pin p hp).1
      rw [z] at this
      exact absurd (Nat.lt_of_lt_of_le (Heap.lt_size this) hf) (Nat.lt_irrefl _)
  · rw [upd_ne (fun z => hb (by simp [z]))]
    exact e
  · rw [upd_ne (nf b _ e)]; exact e
  · rw [upd_ne (nf b _ e)]; exact e
  · exact ⟨#[], by rw [upd_ne (nf b _ e), e]; simp⟩
  · by_cases z : b = f
    · subst z
      rw [upd_same] at e
      cases e
      exact ob
    · rw [upd_ne z] at e
      exact (I1.hok b u e).stay (fun _ _ _ q => q) (fun d q => by rw [upd_ne (nf d _ q)]; exact q) fun d xs q => by rw [upd_ne (nf d _ q)]; exact q
theorem funO_ok {f c' : Addr} {q : Str} {l : Lm} {cl : List (Str × Addr)} {pm ctv : Value} {P : Program} {w : World} {h : Heap} (e : h.get? f = some (PySem.W.kla_obj "<lambda>" q l.ps l.bd l.sc cl pm c' ctv)) : ObjOk P w H h f (FunO f q l cl c') :=
  ⟨⟨pm, ctv, e⟩, ⟨_, e⟩, fun h1 h2 ⟨pm, ctv, a⟩ st => ⟨pm, ctv, st _ a⟩⟩
/-- the lambda's function object, tracked -/
theorem lam_track {T : Tbs} {c P : Addr} {l : Lm} {pos : Pos} {E : Value → Shared → Prop} {Q : Value → Shared → Prop} (I : Inv X pins σ H s) (TB : LamX.TabB X.base X.mg c P) (hcode : X.env.code = .ref c)
    (ht : HasT T P (X.env.qual ++ "<lambda>") pos) (hT : TabsX T H) (hdef : defaultsOf l.ps X.env = ([], [])) (hfree : ∀ y ∈ l.sc.names, y.2 = .free → ∃ c, X.env.cells.lookup y.1 = some c)
    (h : ∀ (f c' : Addr) (H1 : Hp) (s1 : Shared), Inv X pins σ (upd H1 f (FunO f (X.env.qual ++ "<lambda>") l (cloFrom X.env.cells l.sc.names []) c')) s1 → LamX.ExtN H H1 → TabsX T H1 → H f = none → H1 f = none →
      H1 c' = some (LamX.CodeO c' (X.env.qual ++ "<lambda>")) → (H c' = none ∨ H c' = some (LamX.CodeO c' (X.env.qual ++ "<lambda>"))) → Q (.ref f) s1) :
    wpAny (model X.prog X.w) X.A (eval (.Lambda l.ps l.bd l.sc pos) X.env) Q E s := by
  obtain ⟨ps, hP, hok, ha⟩ := tabN_at hT ht
  have gP := I.hok P _ hP
  have bl := TB.bm.keeps I.bk
  have cd := TB.code.keeps I.bk
  have gl := I.mod.glob.keeps I.bk
  refine PySem.W.kla_eval hdef ?_
  cases hc : codeAmong pos ps.toList with
  | some cv =>
    obtain ⟨c', rfl, hco⟩ := ha cv hc
    refine PySem.W.kla_makeFunctionHit (mg := X.mg) (closure_ok hfree) I.ok.glob gl hcode cd gP hok hc bl fun ctv h' tk kp hsz => ?_
    have J : Inv X pins σ H { s with heap := h'.push (PySem.W.kla_obj "<lambda>" (X.env.qual ++ "<lambda>") l.ps l.bd l.sc (cloFrom X.env.cells l.sc.names []) ((X.mg "__name__").getD .none) c' ctv), toks := tk } :=
      I.kept fun b o e => Heap.get?_push_of_some _ (kp b o e)
    exact h _ c' H _ (Inv.track I J hsz (I.hok.fresh hsz) (funO_ok (Heap.get?_push_size _ rfl))) (LamX.ExtN.refl H) hT (I.hok.fresh hsz) (I.hok.fresh hsz) hco (.inr hco)
  | none =>
    refine PySem.W.kla_makeFunction (mg := X.mg) (closure_ok hfree) I.ok.glob gl hcode cd gP hok hc TB.gP bl fun c' ctv h' tk kp hge hlt rec tb => ?_
    obtain ⟨d, oc, vs, t, ed, e1, e2, e3⟩ := rec
    cases ed
    have nC : H c' = none := I.hok.fresh hge
    have big : s.heap.objs.size ≤ h'.objs.size := Nat.le_trans hge (Nat.le_of_lt hlt)
    obtain ⟨g1, g2⟩ := tabN_grow hT ht hP nC
    have J := LamX.inv_table (q := X.env.qual ++ "<lambda>") (t' := tk) (more := #[rawInt pos.line, rawInt pos.col, .ref c']) (h' := h'.push (PySem.W.kla_obj "<lambda>" (X.env.qual ++ "<lambda>") l.ps l.bd l.sc (cloFrom X.env.cells l.sc.names []) ((X.mg "__name__").getD .none) c' ctv)) I hP
      (fun b o n e => Heap.get?_push_of_some _ (kp b o n e)) (Heap.get?_push_of_some _ tb) hge ⟨oc, vs, t, Heap.get?_push_of_some _ e1, e2, e3⟩
    have nf : upd (upd H P (.tbl (ps ++ #[rawInt pos.line, rawInt pos.col, .ref c']))) c' (LamX.CodeO c' (X.env.qual ++ "<lambda>")) h'.objs.size = none := by
      rw [upd_ne (Nat.ne_of_gt hlt), upd_ne (Nat.ne_of_gt (Nat.lt_of_lt_of_le (Heap.lt_size (show s.heap.get? P = some _ from gP)) big))]
      exact I.hok.fresh big
    exact h _ c' _ _ (Inv.track I J big nf (funO_ok (Heap.get?_push_size _ rfl))) g1 g2 (I.hok.fresh big) nf upd_same (.inl nC)
end
def tClo (T : Tbs) (q : Str) (l : Lm) (cl : List (Str × Addr)) : TE := fun _ H Q => TabsX T H ∧ ∀ f c' H1, LamX.ExtN H H1 → TabsX T H1 → H f = none → H1 f = none → H1 c' = some (LamX.CodeO c' q) → (H c' = none ∨ H c' = some (LamX.CodeO c' q)) → Q (.ref f) (upd H1 f (FunO f q l cl c'))
theorem code_fix {c : Addr} {q : Str} : fixO (LamX.CodeO c q) := .inr ⟨_, rfl, c, q, fun _ z => z⟩
def cloD (j : Nat) : Env → DS → R D := fun _ s => .ok (.clo j []) s
section
variable {M : Mp} {X : Cx} {W : WX} {ls : List Lm}
theorem pe_clo {T : Tbs} {c P : Addr} {l : Lm} {pos : Pos} (TB : LamX.TabB X.base X.mg c P) (hcode : X.env.code = .ref c) (ht : HasT T P (X.env.qual ++ "<lambda>") pos) (L : LamX.LamS X.env.scope l.sc) (hdef : defaultsOf l.ps X.env = ([], [])) :
    PE X (.Lambda l.ps l.bd l.sc pos) (tClo T (X.env.qual ++ "<lambda>") l (cloFrom X.env.cells l.sc.names [])) := by
  refine ⟨fun pins s σ H Q I h => ?_⟩
  exact lam_track I TB hcode ht h.1 hdef (L.has I.ok) fun f c' H1 s1 J e1 e2 e3 e4 e5 e6 => ⟨.ref f, _, J, rfl, h.2 f c' H1 e1 e2 e3 e4 e5 e6⟩
/-- a code object is held -/
theorem code_held {G H H1 : Hp} {hs : List Addr} {s : DS} {c : Addr} {q : Str} {K : PySem.W.Frag} (S : Stp M G hs H G hs H1) (J : Sim K M G hs s H1) (e : H1 c = some (LamX.CodeO c q)) (e0 : H c = none ∨ H c = some (LamX.CodeO c q)) : ∃ G1, Stp M G hs H G1 hs H1 ∧ Sim K M G1 hs s H1 ∧ G1 c = some (LamX.CodeO c q) := by
  cases g : G c with
  | some u =>
    have := J.sub c u g
    rw [e] at this
    cases this
    exact ⟨G, S, J, g⟩
  | none =>
    have nh : c ∉ hs := fun z => by
      obtain ⟨k, d, _, _, h⟩ := J.hanAt z
      exact h.nofix e code_fix
    have nt : ¬ inTab M c := fun z => by
      obtain ⟨ps, h⟩ := J.tabS z
      rw [e] at h
      cases h
    have no : ∀ ps, LamX.CodeO c q ≠ HO.tbl ps := LamX.codeO_ne
    refine ⟨upd G c (LamX.CodeO c q), ⟨same_upd g, fun a u h => ?_, S.hp, S.hf, S.kp, S.dm⟩, J.still e nh nt g no, upd_same⟩
    by_cases z : a = c
    · subst z
      rcases e0 with e0 | e0
      · exact .inr (.inl (nt_none e0))
      · exact .inr (.inr ⟨⟨_, e0, code_fix⟩, nh⟩)
    · rw [upd_ne z] at h
      exact S.fr a u h
theorem de_clo {c P : Addr} {params : Arguments} {body : Expr} {scope : Scope} {lpos : Pos} (j : Nat) (hj : ls[j]? = some ⟨params, body, scope⟩) (TB : LamX.TabB X.base X.mg c P) (hcode : X.env.code = .ref c) (hmT : HasT (M.wc (Clo.of X.env ls)).tabs P (X.env.qual ++ "<lambda>") lpos)
    (L : LamX.LamS X.env.scope scope := by exact LamX.lamS_by (by decide +kernel)) (hdef : defaultsOf params X.env = ([], []) := by rfl) : DE (M.wc (Clo.of X.env ls)) X W (.Lambda params body scope lpos) (cloD j) := by
  refine ⟨_, pe_clo (l := ⟨params, body, scope⟩) TB hcode hmT L hdef, fun A σ H G hs own η s Q I r => ⟨I.sim.tab, fun f c' H1 eN T1 f0 f1 e1 e0 => ?_⟩⟩
  obtain ⟨S1, J1⟩ := extN_step I.sim eN T1
  obtain ⟨G1, S2, J2, g⟩ := code_held S1 J1 e1 e0
  obtain ⟨S3, J3⟩ := J2.laid (o := FunO f (X.env.qual ++ "<lambda>") ⟨params, body, scope⟩ (cloFrom X.env.cells scope.names []) c') f1
  refine r _ hs _ (S2.trans S3) J3 _ (rep_clo.mpr ⟨f, [], rfl, ⟨rfl, ⟨params, body, scope⟩, c', hj, upd_same, ?_⟩, repL_nil.mpr rfl⟩)
  rw [upd_ne (ne_of_none e1 f1)]
  exact g
end
end DL
set_option Elab.async false
set_option linter.all false
set_option maxRecDepth 100000
set_option maxHeartbeats 4000000
namespace DL
open PySem PySem.Spec PyProof.Rows L2
abbrev lamQ (X : Cx) : Str := X.env.qual ++ "<lambda>"
abbrev lamCl (X : Cx) (l : Lm) : List (Str × Addr) := cloFrom X.env.cells l.sc.names []
structure LmOk (X : Cx) (l : Lm) : Prop where
  L : LamX.LamS X.env.scope l.sc
  b : ∀ (q : Str) (cl : List (Str × Addr)) (pm cv ctv : Value), bindArgs (PySem.W.kla_fn "<lambda>" q l.ps l.bd l.sc cl pm cv ctv) ⟨[], []⟩ = pure []
end DL
set_option Elab.async false
set_option linter.all false
set_option maxRecDepth 100000
set_option maxHeartbeats 4000000
namespace DLE
open PySem PySem.Calls PyProof.Rows Builtin Builtin.ObjectAttr Builtin.Getset_descriptor PySem.W
section
variable {prog : Program} {w : World} {A : Around} {E : Value → Shared → Prop} {s : Shared} {K : Frag} {x D : Addr}
/-- the object at x is of the class D -/
def OfC (x D : Addr) (h : Heap) : Prop := ∃ o, h.get? x = some o ∧ o.cls = .ref D
theorem OfC.type {M : Model} {h : Heap} (i : OfC x D h) : Looks M h (typeOf (.ref x)) (.ref D) := by
  obtain ⟨o, h1, h2⟩ := i
  exact h2 ▸ (Looks.ld h1).andThen .now
end
end DLE
namespace DL
open PySem PySem.Spec PyProof.Rows L2
end DL
set_option Elab.async false
set_option linter.all false
set_option maxRecDepth 100000
set_option maxHeartbeats 4000000
namespace DL
open PySem PySem.Spec PyProof.Rows L2
end DL
set_option Elab.async false
set_option linter.all false
set_option maxRecDepth 100000
set_option maxHeartbeats 4000000
namespace DL
open PySem PySem.Spec PyProof.Rows L2
/-- the lambdas of a frame, one by one -/
inductive LmsOk (X : Cx) : List Lm → Prop
  | nil : LmsOk X []
  | cons {params : Arguments} {body : Expr} {scope : Scope} {ls : List Lm} (L : LamX.LamS X.env.scope scope) (b : ∀ (q : Str) (cl : List (Str × Addr)) (pm cv ctv : Value), bindArgs (PySem.W.kla_fn "<lambda>" q params body scope cl pm cv ctv) ⟨[], []⟩ = pure []) (r : LmsOk X ls) : LmsOk X (⟨params, body, scope⟩ :: ls)
theorem LmsOk.get {X : Cx} {ls : List Lm} (h : LmsOk X ls) : ∀ (j : Nat) (l : Lm), ls[j]? = some l → LmOk X l := by
  induction h with
  | nil => intro j l e; simp at e
  | cons L b r ih =>
    intro j l e
    cases j with
    | zero => simp at e; rw [← e]; exact ⟨L, b⟩
    | succ j => exact ih j l (by simpa using e)
inductive LbsOk (M : Mp) (X : Cx) (k : Nat) : List Lm → List (Env → DS → R D) → Prop
  | nil : LbsOk M X k [] []
  | cons {params : Arguments} {body : Expr} {scope : Scope} {ls : List Lm} {fb : Env → DS → R D} {fbs : List (Env → DS → R D)} (h : ∀ (A : Around) (outer : List PySem.Env) (s : Shared) (H : Hp) (E : XK) (f c' : Addr), Room k (A.deeper (LamX.lamEnv X scope s.heap.objs.size f c')) → DE M (LamX.lamCx X A outer s H E scope f c') (WofE E) body fb) (r : LbsOk M X k ls fbs) : LbsOk M X k (⟨params, body, scope⟩ :: ls) (fb :: fbs)
theorem LbsOk.get {M : Mp} {X : Cx} {k : Nat} {ls : List Lm} {fbs : List (Env → DS → R D)} (h : LbsOk M X k ls fbs) : ∀ (j : Nat) (l : Lm), ls[j]? = some l → ∃ fb, fbs[j]? = some fb ∧ ∀ (A : Around) (outer : List PySem.Env) (s : Shared) (H : Hp) (E : XK) (f c' : Addr), Room k (A.deeper (LamX.lamEnv X l.sc s.heap.objs.size f c')) → DE M (LamX.lamCx X A outer s H E l.sc f c') (WofE E) l.bd fb := by
  induction h with
  | nil => intro j l e; simp at e
  | cons h r ih =>
    intro j l e
    cases j with
    | zero => simp at e; rw [← e]; exact ⟨_, rfl, h⟩
    | succ j => simpa using ih j l (by simpa using e)
section
variable {MK : Clo → Mp} {X : Cx} {W : WX} {φ ψ : Clo}
theorem dss_wcK (hw : ∀ φ ψ, (MK φ).wc ψ = MK ψ) (ψ : Clo) {ss : List Stmt} {g : Env → DS → F} (h : DSs (MK ψ) X W ss g) : DSs (MK φ) X W ss (wcB g) := by
  have := dss_wc (M := MK φ) (φ := φ) (ψ := ψ) (by rw [hw]; exact h)
  rwa [hw] at this
theorem de_cloK (hw : ∀ φ ψ, (MK φ).wc ψ = MK ψ) {env : PySem.Env} {ls : List Lm} {c P : Addr} {params : Arguments} {body : Expr} {scope : Scope} {lpos : Pos} (j : Nat) (hj : ls[j]? = some ⟨params, body, scope⟩) (TB : LamX.TabB X.base X.mg c P) (hcode : X.env.code = .ref c) (hmT : HasT (MK (Clo.of env ls)).tabs P (X.env.qual ++ "<lambda>") lpos)
    (L : LamX.LamS X.env.scope scope := by exact LamX.lamS_by (by decide +kernel)) (hdef : defaultsOf params X.env = ([], []) := by rfl) (hv : env = X.env := by rfl) : DE (MK (Clo.of env ls)) X W (.Lambda params body scope lpos) (cloD j) := by
  subst hv
  have := de_clo (M := MK Clo.nil) (X := X) (W := W) (ls := ls) (params := params) (body := body) (scope := scope) (lpos := lpos) j hj TB hcode (by rw [hw]; exact hmT) L hdef
  rwa [hw] at this
end
end DL
set_option Elab.async false
set_option linter.all false
set_option maxRecDepth 100000
set_option maxHeartbeats 4000000
namespace DL
open PySem PySem.Spec PyProof.Rows L2
structure EndR where
  rt : V → L2.St → Hp → Prop
abbrev TSR := EndR → L2.St → Hp → Prop
def SPR (X : Cx) (pins : List (Addr × Obj)) (D : EndR) (f : Flow) (s' : Shared) : Prop := match f with
  | .ret u => ∃ v σ' H', Inv X pins σ' H' s' ∧ RelV v u ∧ D.rt v σ' H'
  | _ => False
structure PSR (X : Cx) (ss : List Stmt) (t : TSR) : Prop where
  run : ∀ (pins : List (Addr × Obj)) (s : Shared) (σ : L2.St) (H : Hp) (D : EndR), Inv X pins σ H s → t D σ H → wpAny (model X.prog X.w) X.A (execs ss X.env) (SPR X pins D) X.xe s
section
variable {X : Cx} {st : Stmt} {rest a : List Stmt} {t : TS} {u ta : TSR} {e c : Expr} {te : TE} {tc : TT} {pos : Pos}
def tSeqR (t : TS) (u : TSR) : TSR := fun D σ H => t { nx := u D, rt := fun _ _ => False } σ H
theorem psr_cons (h1 : PS X st t) (h2 : PSR X rest u) : PSR X (st :: rest) (tSeqR t u) := by
  refine ⟨fun pins s σ H D I h => wpAny_execs_cons (thn (h1.run pins s σ H _ I h) fun f s1 q => ?_)⟩
  cases f with
  | next => exact q.elim fun σ' q => q.elim fun H' q => h2.run pins s1 σ' H' D q.1 q.2
  | ret v => exact (q.elim fun _ q => q.elim fun _ q => q.elim fun _ q => q.2.2 : False).elim
  | brk => exact (q.elim fun _ q => q.elim fun _ q => q.2 : False).elim
  | cont => exact (q.elim fun _ q => q.elim fun _ q => q.2 : False).elim
theorem psr_ret (he : PE X e te) : PSR X (.Return (some e) pos :: rest) (fun D σ H => te σ H fun v H1 => D.rt v σ H1) := by
  refine ⟨fun pins s σ H D I h => wpAny_execs_cons (wpAny_Return_some (thn (he.run pins s σ H _ I h) fun v s1 q => ?_))⟩
  obtain ⟨x, H1, q1, q2, q3⟩ := q
  exact ⟨x, σ, H1, q1, q2, q3⟩
theorem psr_if (hc : PT X c tc) (ha : PSR X a ta) (hb : PSR X rest u) : PSR X (.If c a [] pos :: rest) (fun D σ H => tc σ H fun b H1 => if b = true then ta D σ H1 else u D σ H1) := by
  refine ⟨fun pins s σ H D I h => wpAny_execs_cons (wpAny_If (thn (hc.run pins s σ H _ I h) fun d s1 q => ?_))⟩
  obtain ⟨H1, I1, q1⟩ := q
  cases d with
  | true =>
    refine thn (ha.run pins s1 σ H1 D I1 q1) fun f s2 z => ?_
    cases f with
    | ret v => exact z
    | next => exact (show False from z).elim
    | brk => exact (show False from z).elim
    | cont => exact (show False from z).elim
  | false => exact wpAny_execs_nil (hb.run pins s1 σ H1 D I1 q1)
end
/-- THE RULE for such a def -/
theorem fn_ofR {CX : CXT} {P : Program} {w : World} {K : PySem.W.Frag} {mg : Str → Option Value} {base : Heap} {k : Nat} {f : Addr} {name qual : Str} {params : Arguments} {body : List Stmt} {scope : Scope} {dV kV doc pm cdv ct oc : Value} {an od : Option Addr}
    {osl : Array (Option Value)} {N ps : List Str} {sp : Sp} (lk : K.lookup f = some ⟨oc, od, .func (PySem.W.fnOf name qual params body scope dV kV doc pm an cdv ct), osl⟩) (hcd : PySem.W.codeIn K cdv qual = true) (S : FnScope N ps scope)
    (len : ∀ vs H Q E, sp vs H Q E → vs.length = ps.length)
    (hbody : ∀ (A : Around) (outer : List PySem.Env) (s : Shared) (H : Hp) (vs : List V) (Q : VK) (E : XK), Room k (A.deeper (envOfC qual scope s.heap.objs.size f cdv)) → sp vs H Q E → Env0 P w K mg base A outer s H →
      ∃ t, PSR (cxOf CX P w K mg base N qual scope f cdv A outer s H E) body t ∧ t { rt := fun v σ' H' => ∀ s' u, Inv (cxOf CX P w K mg base N qual scope f cdv A outer s H E) [] σ' H' s' → RelV v u → CE outer P w H s Q u s' } (L2.start N vs) H) :
    FnOk P w K mg base CX (k + 1) f (PySem.W.fnOf name qual params body scope dV kV doc pm an cdv ct) ps sp := by
  refine ⟨len, fun A outer s H args us vs Q E hr e0 hb r hsp => ?_⟩
  have KX := e0.mod.kin.keeps fun b o e => (e0.bs b o e).1
  have hkind : ∀ y ∈ ps.zip us, scope.names.lookup y.1 = some .local ∨ (scope.names.lookup y.1 = some .cell ∧ ((cellsFrom (s.heap.objs.size + 1) scope.names []).lookup y.1).isSome = true) := fun ⟨n, v⟩ hy =>
    (S.par n (List.of_mem_zip hy).1).elim .inl fun q => .inr ⟨q, PySem.W.cellsFrom_some _ _ _ (.inl q)⟩
  refine codeAny_call_function hr.depth (KX _ _ lk) rfl S.co S.gen rfl (PySem.W.codeRec_of KX hcd) (hb _ _ _ _ (wpAny_newFunctionEnv_cells S.kind hkind fun env he s1 x => ?_))
  subst he
  refine ⟨(e0.mod.nolimit.keeps fun b o e => (e0.bs b o e).1).keeps x.toInCall.keep, codeAny_func ?_⟩
  obtain ⟨t, ht, hq⟩ := hbody A outer s H vs Q E (hr.deeper _) hsp e0
  have I := inv_start (CX := CX) (K := K) (E := E) S hr.hd e0 (len _ _ _ _ hsp) r x
  refine wpAny_mono (ht.run [] s1 (L2.start N vs) H _ I hq) (fun fl s' hs => ?_) fun e s' hs => hs
  cases fl with
  | ret u =>
    obtain ⟨v, σ', H', J, rv, q⟩ := hs
    exact q s' u J rv
  | next => exact (show False from hs).elim
  | brk => exact (show False from hs).elim
  | cont => exact (show False from hs).elim
inductive FR where
  | rt (d : D) (η : Env) (s : DS)
  | bad
def FRPost (K : PySem.W.Frag) (M : Mp) (A : Anc) (E : EndR) : FR → Prop
  | .rt d η s => ∀ σ H G hs own v, Sm K M A σ H G hs own η s → Rep K M G hs d v → E.rt v σ H
  | .bad => False
structure DSR (M : Mp) (X : Cx) (ss : List Stmt) (g : Env → DS → FR) : Prop where
  ex : ∃ t, PSR X ss t ∧ ∀ (A : Anc) (σ : L2.St) (H G : Hp) (hs : List Addr) (own : Nat → Addr) (η : Env) (s : DS) (E : EndR), Sm X.K M A σ H G hs own η s → FRPost X.K M A E (g η s) → t E σ H
def seqR (f : Env → DS → F) (g : Env → DS → FR) : Env → DS → FR := fun η s => match f η s with
  | .nx η' s' => g η' s'
  | _ => .bad
def retR2 (f : Env → DS → R D) : Env → DS → FR := fun η s => match f η s with
  | .ok d s' => .rt d η s'
  | _ => .bad
def ifR (c : Env → DS → R Bool) (a b : Env → DS → FR) : Env → DS → FR := fun η s => match c η s with
  | .ok true s' => a η s'
  | .ok false s' => b η s'
  | _ => .bad
section
variable {M : Mp} {X : Cx} {W : WX} {st : Stmt} {rest a : List Stmt} {f : Env → DS → F} {g h : Env → DS → FR} {e c : Expr} {fe : Env → DS → R D} {fc : Env → DS → R Bool} {pos : Pos}
theorem dsr_cons (h1 : DSt M X W st f) (h2 : DSR M X rest g) : DSR M X (st :: rest) (seqR f g) := by
  obtain ⟨t, p, k1⟩ := h1.ex
  obtain ⟨u, q, k2⟩ := h2.ex
  refine ⟨_, psr_cons p q, fun A σ H G hs own η s E I hp => k1 A σ H G hs own η s _ I ?_⟩
  unfold seqR at hp
  cases z : f η s with
  | nx η' s' =>
    rw [z] at hp
    exact fun σ' H' G' hs' own' I' => k2 A σ' H' G' hs' own' η' s' E I' hp
  | rt d s' => rw [z] at hp; exact hp.elim
  | bk η' s' => rw [z] at hp; exact hp.elim
  | ct η' s' => rw [z] at hp; exact hp.elim
  | ex x p' η' s' => rw [z] at hp; exact hp.elim
  | bad => rw [z] at hp; exact hp.elim
theorem dsr_ret (he : DE M X W e fe) : DSR M X (.Return (some e) pos :: rest) (retR2 fe) := by
  obtain ⟨t, p, k1⟩ := he.ex
  refine ⟨_, psr_ret p, fun A σ H G hs own η s E I hp => k1 A σ H G hs own η s _ I ?_⟩
  unfold retR2 at hp
  cases z : fe η s with
  | ok d s' =>
    rw [z] at hp
    exact fun G' hs' H' S' J' v hv => hp σ H' G' hs' own v (I.step S' J') hv
  | ex x p' s' => rw [z] at hp; exact hp.elim
  | bad => rw [z] at hp; exact hp.elim
theorem dsr_if (hc : DT M X W c fc) (ha : DSR M X a g) (hb : DSR M X rest h) : DSR M X (.If c a [] pos :: rest) (ifR fc g h) := by
  obtain ⟨t, p, k1⟩ := hc.ex
  obtain ⟨ta, pa, k2⟩ := ha.ex
  obtain ⟨tb, pb, k3⟩ := hb.ex
  refine ⟨_, psr_if p pa pb, fun A σ H G hs own η s E I hp => k1 A σ H G hs own η s _ I ?_⟩
  unfold ifR at hp
  cases z : fc η s with
  | ok b s' =>
    rw [z] at hp
    cases b with
    | true => exact fun G' hs' H' S' J' => show ta E σ H' from k2 A σ H' G' hs' own η s' E (I.step S' J') hp
    | false => exact fun G' hs' H' S' J' => show tb E σ H' from k3 A σ H' G' hs' own η s' E (I.step S' J') hp
  | ex x p' s' => rw [z] at hp; exact hp.elim
  | bad => rw [z] at hp; exact hp.elim
end
end DL
set_option Elab.async false
set_option linter.all false
set_option maxRecDepth 100000
set_option maxHeartbeats 4000000
namespace DL
open PySem PySem.Spec PyProof.Rows L2
def exO (o : Obj) : HO := .frz o (.ext fun _ => True)
def reC (C : List Addr) (H H' : Hp) : Hp := fun a => if a ∈ C then H a else H' a
def subC (C : List Addr) (H : Hp) : Hp := reC C (fun _ => none) H
def objC (h : Heap) : Hp := fun a => (h.get? a).map exO
def CelOk (C : List Addr) (H : Hp) : Prop := ∀ c ∈ C, ∃ o, H c = some (exO o)
theorem reC_in {C : List Addr} {H H' : Hp} {a : Addr} (h : a ∈ C) : reC C H H' a = H a := if_pos h
theorem reC_out {C : List Addr} {H H' : Hp} {a : Addr} (h : a ∉ C) : reC C H H' a = H' a := if_neg h
theorem subC_in {C : List Addr} {H : Hp} {a : Addr} (h : a ∈ C) : subC C H a = none := if_pos h
theorem subC_out {C : List Addr} {H : Hp} {a : Addr} (h : a ∉ C) : subC C H a = H a := if_neg h
theorem CelOk.no {C : List Addr} {H : Hp} (k : CelOk C H) {a : Addr} {o : HO} (e : H a = some o) (n : ∀ ob, o ≠ exO ob) : a ∉ C := fun h => by
  obtain ⟨ob, q⟩ := k a h
  rw [e] at q
  exact n ob (Option.some.inj q)
/-- all but what is held exactly is there -/
def SameX (G G' : Hp) : Prop := ∀ a o, G a = some o → (∀ ob, o ≠ exO ob) → G' a = some o
theorem CelOk.same {C : List Addr} {H : Hp} (k : CelOk C H) : SameX H (subC C H) := fun a o e n => by
  rw [subC_out (k.no e n)]
  exact e
section
variable {P : Program} {w : World} {K : PySem.W.Frag} {mg : Str → Option Value} {base : Heap} {A : Around} {outer : List PySem.Env} {s s' : Shared} {H H' : Hp} {C : List Addr} {h h' : Heap}
theorem HOk.subC (x : HOk P w H h) (k : CelOk C H) : HOk P w (DL.subC C H) h := fun a o e => by
  have hc : a ∉ C := fun z => by
    rw [subC_in z] at e
    cases e
  rw [subC_out hc] at e
  exact (x a o e).stay (fun _ _ _ q => q) (fun b q => k.same b _ q fun ob z => by cases z) fun b xs q => k.same b _ q fun ob z => by cases z
theorem exO_ok {a : Addr} {o : Obj} (e : h.get? a = some o) : ObjOk P w H h a (exO o) := ⟨e, trivial, ⟨o, e⟩, fun _ _ _ _ => trivial⟩
/-- behind: what is held exactly is held again -/
theorem HOk.reC (x : HOk P w H' h') (n : ∀ c ∈ C, H' c = none) (k : ∀ c ∈ C, ∃ o, H c = some (exO o) ∧ h'.get? c = some o) : HOk P w (DL.reC C H H') h' := fun a o e => by
  by_cases hc : a ∈ C
  · rw [reC_in hc] at e
    obtain ⟨ob, e1, e2⟩ := k a hc
    rw [e1] at e
    cases e
    exact exO_ok e2
  · rw [reC_out hc] at e
    have out : ∀ b u, H' b = some u → DL.reC C H H' b = some u := fun b u q => by
      rw [reC_out fun z => by rw [n b z] at q; cases q]
      exact q
    exact (x a o e).stay (fun _ _ _ q => q) (fun b q => out b _ q) fun b xs q => out b _ q
theorem Env0.subC (e : Env0 P w K mg base A outer s H) (k : CelOk C H) : Env0 P w K mg base A outer s (DL.subC C H) := by
  have nn : ∀ b, H b = none → DL.subC C H b = none := fun b q => by
    by_cases z : b ∈ C
    · exact subC_in z
    · rw [subC_out z]; exact q
  exact ⟨e.frames, e.mod, fun b o q => ⟨(e.bs b o q).1, nn b (e.bs b o q).2⟩, e.bsz, e.funs, fun b q => nn b (e.frf b q), HOk.subC e.hok k, e.bare⟩
theorem CE.reC {Q Q' : VK} {u : Value} (e0 : Env0 P w K mg base A outer s H) (k : CelOk C H) (c : CE outer P w (DL.subC C H) s Q' u s') (hq : ∀ v H', (∀ c ∈ C, H' c = none) → Q' v H' → Q v (DL.reC C H H')) : CE outer P w H s Q u s' := by
  obtain ⟨v, H', o1, o2, un, hok, rv, q⟩ := c
  have at_ : ∀ c ∈ C, ∃ o, H c = some (exO o) ∧ s.heap.get? c = some o := fun c hc => by
    obtain ⟨o, e⟩ := k c hc
    exact ⟨o, e, (e0.hok c _ e).1⟩
  have sn : ∀ c ∈ C, DL.subC C H c = none := fun c hc => subC_in hc
  have so : ∀ b, b ∉ C → DL.subC C H b = H b := fun b hb => subC_out hb
  have nx : ∀ b : Addr, b ∉ ([] : List Addr) := fun b z => by cases z
  have n' : ∀ c ∈ C, H' c = none := fun c hc => by
    obtain ⟨o, _, e⟩ := at_ c hc
    exact un.free c o e (sn c hc) (nx c)
  have sb : ∀ b, H b = none → DL.subC C H b = none := fun b q => by
    by_cases z : b ∈ C
    · exact sn b z
    · rw [so b z]; exact q
  have nC : ∀ b, H b = none → b ∉ C := fun b q z => by
    obtain ⟨o, e⟩ := k b z
    rw [q] at e; cases e
  refine ⟨v, DL.reC C H H', o1, o2, ⟨fun b o e n hb hx => un.keep b o e (sb b n) hb hx, fun b o e n hb hx => un.slot b o e (sb b n) hb hx, fun b o e n hx => ?_, un.there, fun b xs e => ?_, fun b o z e => ?_, fun b ps e => ?_⟩, HOk.reC hok n' fun c hc => ?_, rv, hq v H' n' q⟩
  · rw [reC_out (nC b n)]
    exact un.free b o e (sb b n) hx
  · have hb := k.no e fun ob z => by cases z
    rw [reC_out hb]
    exact un.tups b xs (by rw [so b hb]; exact e)
  · by_cases hb : b ∈ C
    · rw [reC_in hb]; exact e
    · rw [reC_out hb]
      exact un.frzs b o z (by rw [so b hb]; exact e)
  · have hb := k.no e fun ob z => by cases z
    rw [reC_out hb]
    exact un.tbls b ps (by rw [so b hb]; exact e)
  · obtain ⟨o, e1, e2⟩ := at_ c hc
    refine ⟨o, e1, un.keep c o e2 (sn c hc) (fun z => ?_) (nx c)⟩
    rw [e0.frf c z] at e1
    cases e1
end
section
variable {K : PySem.W.Frag} {M : Mp} {G G' H H' : Hp} {hs hs' : List Addr}
theorem SameX.sqT (e : SameX G G') {a : Addr} {xs : List V} (h : SqT K G a xs) : SqT K G' a xs := by
  rcases h with (h | ⟨o, h⟩) | h
  · exact .inl (.inl (e _ _ h fun ob z => by cases z))
  · exact .inl (.inr ⟨o, e _ _ h fun ob z => by cases z⟩)
  · exact .inr h
theorem SameX.sqL (e : SameX G G') {a : Addr} {xs : List V} (h : SqL K G a xs) : SqL K G' a xs := by
  rcases h with (h | ⟨o, h⟩) | h
  · exact .inl (.inl (e _ _ h fun ob z => by cases z))
  · exact .inl (.inr ⟨o, e _ _ h fun ob z => by cases z⟩)
  · exact .inr h
theorem SameX.tq (e : SameX G G') {a : Addr} {xs : List V} (h : Tq K M G a xs) : Tq K M G' a xs := by
  unfold Tq at h ⊢
  split
  · rename_i m
    rw [if_pos m] at h
    exact e _ _ h fun ob z => by cases z
  · rename_i m
    rw [if_neg m] at h
    exact e.sqT h
mutual
theorem Rep.sx (e : SameX G G') : ∀ (d : D) (v : V), Rep K M G hs d v → noClo d = true → Rep K M G' hs d v
  | .non, _, h, _ => by unfold Rep at h ⊢; exact h
  | .bl _, _, h, _ => by unfold Rep at h ⊢; exact h
  | .int _, _, h, _ => by unfold Rep at h ⊢; exact h
  | .str _, _, h, _ => by unfold Rep at h ⊢; exact h
  | .han _, _, h, _ => by unfold Rep at h ⊢; exact h
  | .scr _, _, h, _ => by
    unfold Rep at h ⊢
    exact h.elim fun a h => ⟨a, h.1, e.sqL h.2⟩
  | .tup ds, _, h, n => by
    unfold Rep at h ⊢
    unfold noClo at n
    obtain ⟨a, vs, h1, h2, h3⟩ := h
    exact ⟨a, vs, h1, e.tq h2, RepL.sx e ds vs h3 n⟩
  | .lst ds, _, h, n => by
    unfold Rep at h ⊢
    unfold noClo at n
    obtain ⟨a, vs, h1, h2, h3⟩ := h
    exact ⟨a, vs, h1, e _ _ h2 (fun ob z => by cases z), RepL.sx e ds vs h3 n⟩
  | .dic kvs, _, h, n => by
    unfold Rep at h ⊢
    unfold noClo at n
    obtain ⟨a, o, l, h1, h2, h3⟩ := h
    exact ⟨a, o, l, h1, e _ _ h2 (fun ob z => by cases z), RepD.sx e kvs l h3 n⟩
  | .dit kvs, _, h, n => by
    unfold Rep at h ⊢
    unfold noClo at n
    obtain ⟨a, o, l, h1, h2, h3⟩ := h
    exact ⟨a, o, l, h1, e _ _ h2 (fun ob z => by cases z), RepT.sx e kvs l h3 n⟩
  | .obj c ds, _, h, n => by
    unfold Rep at h ⊢
    unfold noClo at n
    obtain ⟨a, dx, fs, h1, h2, h3, h4⟩ := h
    exact ⟨a, dx, fs, h1, e _ _ h2 (fun ob z => by cases z), h3, RepL.sx e ds _ h4 n⟩
  | .tup0 ds, _, h, n => by
    unfold Rep at h ⊢
    unfold noClo at n
    obtain ⟨a, o, vs, h1, h2, h3, h4, h5⟩ := h
    exact ⟨a, o, vs, h1, e _ _ h2 (fun ob z => by cases z), h3, h4, RepL.sx e ds vs h5 n⟩
  | .clo _ _, _, _, n => by
    unfold noClo at n
    cases n
theorem RepL.sx (e : SameX G G') : ∀ (ds : List D) (vs : List V), RepL K M G hs ds vs → noCloL ds = true → RepL K M G' hs ds vs
  | [], _, h, _ => by unfold RepL at h ⊢; exact h
  | d :: ds, _, h, n => by
    unfold RepL at h ⊢
    unfold noCloL at n
    rw [Bool.and_eq_true] at n
    obtain ⟨v, vr, h1, h2, h3⟩ := h
    exact ⟨v, vr, h1, Rep.sx e d v h2 n.1, RepL.sx e ds vr h3 n.2⟩
theorem RepD.sx (e : SameX G G') : ∀ (ds : List (D × D)) (vs : List (Key × V)), RepD K M G hs ds vs → noCloP ds = true → RepD K M G' hs ds vs
  | [], _, h, _ => by unfold RepD at h ⊢; exact h
  | (k, d) :: ds, _, h, n => by
    unfold RepD at h ⊢
    unfold noCloP at n
    rw [Bool.and_eq_true] at n
    obtain ⟨k', v, vr, h1, h0, h2, h3⟩ := h
    exact ⟨k', v, vr, h1, h0, Rep.sx e d v h2 n.1, RepD.sx e ds vr h3 n.2⟩
theorem RepT.sx (e : SameX G G') : ∀ (ds : List (D × D)) (vs : List (List Key × V)), RepT K M G hs ds vs → noCloP ds = true → RepT K M G' hs ds vs
  | [], _, h, _ => by unfold RepT at h ⊢; exact h
  | (k, d) :: ds, _, h, n => by
    unfold RepT at h ⊢
    unfold noCloP at n
    rw [Bool.and_eq_true] at n
    obtain ⟨k', v, vr, h1, h0, h2, h3⟩ := h
    exact ⟨k', v, vr, h1, h0, Rep.sx e d v h2 n.1, RepT.sx e ds vr h3 n.2⟩
end
theorem At.sx (e : SameX G G') {a : Addr} (h0 : H' a = H a) : ∀ {d : D}, At K M G hs H a d → noClo d = true → At K M G' hs H' a d
  | .lst ds, ⟨vs, h1, h2⟩, n => ⟨vs, by rw [h0]; exact h1, h2.sx e ds vs (by unfold noClo at n; exact n)⟩
  | .dic kvs, ⟨vs, h1, h2⟩, n => ⟨vs, by rw [h0]; exact h1, h2.sx e kvs vs (by unfold noClo at n; exact n)⟩
  | .dit kvs, ⟨vs, h1, h2⟩, n => ⟨vs, by rw [h0]; exact h1, h2.sx e kvs vs (by unfold noClo at n; exact n)⟩
  | .obj c ds, ⟨dx, fs, h1, h2, h3⟩, n => ⟨dx, fs, by rw [h0]; exact h1, h2, h3.sx e ds _ (by unfold noClo at n; exact n)⟩
end
end DL
set_option Elab.async false
set_option linter.all false
set_option maxRecDepth 100000
set_option maxHeartbeats 4000000
namespace DL
open PySem PySem.Spec PyProof.Rows L2 NdefX LamX
section
variable {K : PySem.W.Frag} {M : Mp} {G G' H H' : Hp} {hs hs' : List Addr} {C : List Addr} {s s' : DS}
theorem SameX.ext (e : SameX H H') {a : Addr} {f : Heap → Prop} (h : H a = some (.ext f)) : H' a = some (.ext f) := e _ _ h fun ob z => by cases z
theorem tabN_sx (e : SameX H H') {P : Addr} {kn : Nat → Nat → Str} (h : TabN H P kn) : TabN H' P kn := by
  obtain ⟨ps, h1, h2, h3⟩ := h
  refine ⟨ps, e _ _ h1 (fun ob z => by cases z), h2, fun pos cv hc => ?_⟩
  obtain ⟨c, q1, q2⟩ := h3 pos cv hc
  exact ⟨c, q1, e.ext q2⟩
theorem Ent.sx {T : Tbs} {q : Str} {cv : Value} (h : Ent T H q cv) (e : SameX H H') : Ent T H' q cv := by
  obtain ⟨c, h1, h2⟩ := h
  refine ⟨c, h1, ?_⟩
  rcases h2 with ⟨h2, h3⟩ | ⟨h2, P, h3, h4, h5⟩
  · exact .inl ⟨h2, e.ext h3⟩
  · exact .inr ⟨h2, P, e.ext h3, h4, tabN_sx e h5⟩
theorem TabsX.sx {T : Tbs} (t : TabsX T H) (e : SameX H H') : TabsX T H' := by
  refine ⟨fun p hp => ?_, fun c P q h => e.ext (t.2 c P q h)⟩
  obtain ⟨ps, h1, h2, h3⟩ := t.1 p hp
  exact ⟨ps, e _ _ h1 (fun ob z => by cases z), h2, fun pos cv hc => (h3 pos cv hc).sx e⟩
/-- let go -/
theorem Sim.subC (J : Sim K M G hs s H) (n : noCloL s = true) (kG : CelOk C G) : Sim K M (DL.subC C G) hs s (DL.subC C H) where
  sub := fun a o e => by
    have hc : a ∉ C := fun z => by
      rw [subC_in z] at e
      cases e
    rw [subC_out hc] at e ⊢
    exact J.sub a o e
  len := J.len
  nd := J.nd
  hG := fun a ha => by
    by_cases z : a ∈ C
    · exact subC_in z
    · rw [subC_out z]; exact J.hG a ha
  han := fun k a d e1 e2 => by
    have hc : a ∉ C := fun z => by
      obtain ⟨o, q⟩ := kG a z
      rw [J.hG a (List.mem_of_getElem? e1)] at q
      cases q
    exact (J.han k a d e1 e2).sx kG.same (subC_out hc) (noCloL_get n e2)
  tab := J.tab.sx (CelOk.same fun c hc => by
    obtain ⟨o, q⟩ := kG c hc
    exact ⟨o, J.sub _ _ q⟩)
  tG := fun a o e => by
    have hc : a ∉ C := fun z => by
      rw [subC_in z] at e
      cases e
    rw [subC_out hc] at e
    exact J.tG a o e
/-- held again -/
theorem Sim.reC (J : Sim K M G' hs' s' H') (kH : ∀ c ∈ C, G c = H c) (k : CelOk C G) (nH : ∀ c ∈ C, H' c = none) : Sim K M (DL.reC C G G') hs' s' (DL.reC C H H') := by
  have nG : ∀ c ∈ C, G' c = none := fun c hc => by
    cases q : G' c with
    | none => rfl
    | some o =>
      have := J.sub c o q
      rw [nH c hc] at this
      cases this
  have sG : Same G' (DL.reC C G G') := fun a o e => by
    rw [reC_out fun z => by rw [nG a z] at e; cases e]
    exact e
  have sH : Same H' (DL.reC C H H') := fun a o e => by
    rw [reC_out fun z => by rw [nH a z] at e; cases e]
    exact e
  have nh : ∀ a ∈ hs', a ∉ C := fun a ha z => by
    obtain ⟨i, hi, e⟩ := List.getElem_of_mem ha
    have e1 : hs'[i]? = some a := by rw [List.getElem?_eq_getElem hi, e]
    have hl : i < s'.length := by rw [← J.len]; exact hi
    obtain ⟨o, q, _⟩ := (J.han i a s'[i] e1 (List.getElem?_eq_getElem hl)).some
    rw [nH a z] at q
    cases q
  refine ⟨fun a o e => ?_, J.len, J.nd, fun a ha => by rw [reC_out (nh a ha)]; exact J.hG a ha, fun i a d e1 e2 => ?_, J.tab.ext sH, fun a o e => ?_⟩
  · by_cases z : a ∈ C
    · rw [reC_in z] at e ⊢
      rw [← kH a z]; exact e
    · rw [reC_out z] at e ⊢
      exact J.sub a o e
  · exact (J.han i a d e1 e2).mono sG (Pre.refl _) (reC_out (nh a (List.mem_of_getElem? e1)))
  · by_cases z : a ∈ C
    · rw [reC_in z] at e
      obtain ⟨ob, q⟩ := k a z
      rw [q] at e
      cases e
      intro ps w
      cases w
    · rw [reC_out z] at e
      exact J.tG a o e
theorem Stp.reC {M' : Mp} (S : Stp M' (DL.subC C G) hs (DL.subC C H) G' hs' H') (J : Sim K M G' hs' s' H') (kH : ∀ c ∈ C, G c = H c) (k : CelOk C G) (nH : ∀ c ∈ C, H' c = none) : Stp M G hs H (DL.reC C G G') hs' (DL.reC C H H') := by
  have nh : ∀ a ∈ hs', a ∉ C := fun a ha z => by
    obtain ⟨i, hi, e⟩ := List.getElem_of_mem ha
    have e1 : hs'[i]? = some a := by rw [List.getElem?_eq_getElem hi, e]
    have hl : i < s'.length := by rw [← J.len]; exact hi
    obtain ⟨o, q, _⟩ := (J.han i a s'[i] e1 (List.getElem?_eq_getElem hl)).some
    rw [nH a z] at q
    cases q
  refine ⟨fun a o e => ?_, fun a o e => ?_, S.hp, fun a ha => ?_, fun a o e n1 n2 => ?_, fun a e => ?_⟩
  · by_cases z : a ∈ C
    · rw [reC_in z]; exact e
    · rw [reC_out z]
      exact S.gg a o (by rw [subC_out z]; exact e)
  · by_cases z : a ∈ C
    · rw [reC_in z] at e; exact .inl e
    · rw [reC_out z] at e
      rcases S.fr a o e with q | q
      · rw [subC_out z] at q; exact .inl q
      · unfold NtT Nt at q ⊢
        rw [subC_out z] at q
        exact .inr q
  · rcases S.hf a ha with q | q
    · exact .inl q
    · unfold Nt at q ⊢
      rw [subC_out (nh a ha)] at q
      exact .inr q
  · by_cases z : a ∈ C
    · rw [reC_in z]; exact e
    · rw [reC_out z]
      exact S.kp a o (by rw [subC_out z]; exact e) n1 n2
  · by_cases z : a ∈ C
    · obtain ⟨ob, q⟩ := k a z
      obtain ⟨ps, w⟩ := e (exO ob) (by rw [reC_in z, ← kH a z]; exact q)
      cases w
    · have := S.dm a (by unfold Nt at e ⊢; rw [reC_out z] at e; exact e)
      unfold Nt at this ⊢
      rw [subC_out z] at this
      exact this
/-- held from now on: what is new since H -/
theorem Stp.newC {M' : Mp} (S : Stp M' G hs H G' hs' H') {Z : Hp} (k : CelOk C Z) (n0 : ∀ c ∈ C, H c = none) (g0 : ∀ c ∈ C, G c = none) (nG : ∀ c ∈ C, G' c = none) (nH : ∀ c ∈ C, H' c = none) : Stp M G hs H (DL.reC C Z G') hs' (DL.reC C Z H') := by
  refine ⟨fun a o e => ?_, fun a o e => ?_, S.hp, S.hf, fun a o e n1 n2 => ?_, fun a e => ?_⟩
  · rw [reC_out fun z => by rw [g0 a z] at e; cases e]
    exact S.gg a o e
  · by_cases z : a ∈ C
    · exact .inr (.inl (nt_none (n0 a z)))
    · rw [reC_out z] at e
      exact S.fr a o e
  · rw [reC_out fun z => by rw [n0 a z] at e; cases e]
    exact S.kp a o e n1 n2
  · by_cases z : a ∈ C
    · exact nt_none (n0 a z)
    · exact S.dm a (by unfold Nt at e ⊢; rw [reC_out z] at e; exact e)
end
end DL
set_option Elab.async false
set_option linter.all false
set_option maxRecDepth 100000
set_option maxHeartbeats 4000000
namespace DL
open PySem PySem.Spec PyProof.Rows L2
/-- the cells that a name leads to -/
def celsOf (cl : List (Str × Addr)) : List Addr := (cl.filter fun p => cl.lookup p.1 == some p.2).map (·.2)
theorem celsOf_iff {cl : List (Str × Addr)} {c : Addr} : c ∈ celsOf cl ↔ ∃ y, cl.lookup y = some c := by
  unfold celsOf
  rw [List.mem_map]
  constructor
  · rintro ⟨p, hp, rfl⟩
    exact ⟨p.1, eq_of_beq (List.mem_filter.mp hp).2⟩
  · rintro ⟨y, h⟩
    exact ⟨(y, c), List.mem_filter.mpr ⟨PySem.mem_of_lookup h, by rw [h]; exact beq_self_eq_true _⟩, rfl⟩
def Capt (σ : L2.St) : List Nat → List V → Prop
  | [], vs => vs = []
  | i :: cp, vs => ∃ v vr, vs = v :: vr ∧ σ[i]? = some (some v) ∧ Capt σ cp vr
section
variable (CX : CXT) (P : Program) (w : World) (K : PySem.W.Frag) (mg : Str → Option Value) (base : Heap) (N : List Str) (q : Str) (sc : Scope) (fa : Addr) (cd : Value) (ls : List Lm) (capt : List (List Nat))
/-- a lambda of a frame that has ended -/
def cloK : Hp → Nat → Addr → List V → Prop := fun G n a vs => ∃ (X : Cx) (σ : L2.St) (H : Hp) (s : Shared) (l : Lm) (c' : Addr) (cp : List Nat), Inv X [] σ H s ∧ (∃ A outer s0 H0 E, X = cxOf CX P w K mg base N q sc fa cd A outer s0 H0 E) ∧
  ls[n]? = some l ∧ capt[n]? = some cp ∧ Capt σ cp vs ∧ G a = some (FunO a (lamQ X) l (cloFrom X.env.cells l.sc.names []) c') ∧ G c' = some (LamX.CodeO c' (lamQ X)) ∧ ∀ y c, X.env.cells.lookup y = some c → ∃ o, s.heap.get? c = some o ∧ G c = some (exO o)
def CloK : Clo where
  f := cloK CX P w K mg base N q sc fa cd ls capt
  m := fun G G' n a vs e h => by
    obtain ⟨X, σ, H, s, l, c', cp, h1, h2, h3, h4, h5, h6, h7, h8⟩ := h
    refine ⟨X, σ, H, s, l, c', cp, h1, h2, h3, h4, h5, e _ _ h6, e _ _ h7, fun y c hc => ?_⟩
    obtain ⟨o, q1, q2⟩ := h8 y c hc
    exact ⟨o, q1, e _ _ q2⟩
end
def grab (η : Env) : List Nat → Option (List D)
  | [] => some []
  | i :: cp => match η[i]? with
    | some (.v d) => if noClo d = true then (grab η cp).map (d :: ·) else none
    | _ => none
def deedK (capt : List (List Nat)) : FR → R D
  | .rt (.tup [.clo j [], z]) η s => match capt[j]? with
    | some cp => (match grab η cp with
      | some dv => if (noClo z && noCloL s) = true then .ok (.tup [.clo j dv, z]) s else .bad
      | none => .bad)
    | none => .bad
  | _ => .bad
def deedD (n : Nat) (capt : List (List Nat)) (body : Env → DS → FR) : List D → DS → R D := fun ds s => if (noCloL s && noCloL ds) = true then deedK capt (body (padE n (ds.map .v)) s) else .bad
section
variable {M : Mp} {K : PySem.W.Frag} {P : Program} {w : World} {mg : Str → Option Value} {base : Heap}
theorem grab_capt {φ ψ : Clo} {G G' : Hp} {hs hs' : List Addr} {σ : L2.St} {η : Env} (e : Same G G') (p : Pre hs hs') (pl : ∀ (i : Nat) (d : D), η[i]? = some (.v d) → ∃ v, σ[i]? = some (some v) ∧ Rep K (M.wc φ) G hs d v) :
    ∀ {cp : List Nat} {dv : List D}, grab η cp = some dv → ∃ vs, Capt σ cp vs ∧ RepL K (M.wc ψ) G' hs' dv vs
  | [], dv, h => by
    cases h
    exact ⟨[], rfl, repL_nil.mpr rfl⟩
  | i :: cp, dv, h => by
    unfold grab at h
    split at h
    · rename_i d hd
      split at h
      · rename_i n
        obtain ⟨dr, h1, rfl⟩ := Option.map_eq_some_iff.mp h
        obtain ⟨v, h2, h3⟩ := pl i d hd
        obtain ⟨vs, h4, h5⟩ := grab_capt e p pl h1
        exact ⟨v :: vs, ⟨v, vs, rfl, h2, h4⟩, repL_cons.mpr ⟨v, vs, rfl, (h3.wc d v n).mono e p, h5⟩⟩
      · cases h
    · cases h
theorem rep_deed {φ ψ : Clo} {G G' : Hp} {hs : List Addr} {j : Nat} {z : D} {dv : List D} {v : V} (hv : Rep K (M.wc φ) G hs (.tup [.clo j [], z]) v) (nz : noClo z = true) (oG : Same G G') (key : ∀ f, φ.f G j f [] → ∃ vs, ψ.f G' j f vs ∧ RepL K (M.wc ψ) G' hs dv vs) :
    Rep K (M.wc ψ) G' hs (.tup [.clo j dv, z]) v := by
  obtain ⟨a, tv, e1, e2, e3⟩ := rep_tupq.mp hv
  obtain ⟨v1, tr, rfl, r1, r2⟩ := repL_cons.mp e3
  obtain ⟨v2, tr2, rfl, r3, r4⟩ := repL_cons.mp r2
  obtain ⟨f, vs0, rfl, e4, e5⟩ := rep_clo.mp r1
  obtain rfl := repL_nil.mp e5
  obtain ⟨vs, k1, k2⟩ := key f e4
  have q1 : Rep K (M.wc ψ) G' hs (.clo j dv) (.ref f) := rep_clo.mpr ⟨f, vs, rfl, k1, k2⟩
  have q2 : Rep K (M.wc ψ) G' hs z v2 := (r3.wc z v2 nz).mono oG (Pre.refl _)
  obtain rfl := repL_nil.mp r4
  have e2 : Tq K (M.wc ψ) G a [V.ref f, v2] := e2
  exact rep_tupq.mpr ⟨a, _, e1, Tq.mono oG e2, repL_cons.mpr ⟨_, _, rfl, q1, repL_cons.mpr ⟨_, _, rfl, q2, repL_nil.mpr rfl⟩⟩⟩
theorem deed_ret {CX : CXT} {N : List Str} {qual : Str} {sc : Scope} {f : Addr} {cdv : Value} {A : Around} {outer : List PySem.Env} {s0 s1 : Shared} {H H' G G' : Hp} {E : XK} {WE : WX} {Q : VK} {ls : List Lm} {capt : List (List Nat)} {hs hs' : List Addr} {σ' : L2.St} {own' : Nat → Addr} {η' : Env} {s s' : DS} {j : Nat} {z : D} {v : V} {u : Value} {cp : List Nat} {dv : List D}
    (e0 : Env0 P w K mg base A outer s0 H) (J : Sim K (M.wc (CloK CX P w K mg base N qual sc f cdv ls capt)) G hs s H)
    (I' : Sm K (M.wc (Clo.of (envOfC qual sc s0.heap.objs.size f cdv) ls)) ⟨G, hs, H, none⟩ σ' H' G' hs' own' η' s')
    (hv : Rep K (M.wc (Clo.of (envOfC qual sc s0.heap.objs.size f cdv) ls)) G' hs' (.tup [.clo j [], z]) v)
    (I2 : Inv (cxOf CX P w K mg base N qual sc f cdv A outer s0 H E) [] σ' H' s1) (rv : RelV v u)
    (hcp : capt[j]? = some cp) (hdv : grab η' cp = some dv) (nz : noClo z = true) (ns : noCloL s' = true)
    (hp : RPost K (M.wc (CloK CX P w K mg base N qual sc f cdv ls capt)) [] WE G hs H (.ok (.tup [.clo j dv, z]) s') (fun d G' hs' _ H' => ∀ v, Rep K (M.wc (CloK CX P w K mg base N qual sc f cdv ls capt)) G' hs' d v → Q v H')) : CE outer P w H s0 Q u s1 := by
  obtain ⟨X, hX⟩ : ∃ X, X = cxOf CX P w K mg base N qual sc f cdv A outer s0 H E := ⟨_, rfl⟩
  have a1 : X.prog = P := by rw [hX]; rfl
  have a2 : X.w = w := by rw [hX]; rfl
  have b1 : X.s_0 = s0 := by rw [hX]; rfl
  have b2 : X.H_0 = H := by rw [hX]; rfl
  have b3 : X.fs = frs outer := by rw [hX]; rfl
  have b4 : X.ex = [] := by rw [hX]; rfl
  have bf : ∀ {y}, X.fn y = true := by intro y; rw [hX]; rfl
  have b5 : envOfC qual sc s0.heap.objs.size f cdv = X.env := by rw [hX]; rfl
  rw [b5] at I' hv
  rw [← hX] at I2
  clear b5
  have sb : ∀ {G H : Hp} {c : Addr}, Same G H → H c = none → G c = none := fun {G H c} e n => by
    cases q : G c with
    | none => rfl
    | some o => have := e _ _ q; rw [n] at this; cases this
  obtain ⟨C, hC⟩ : ∃ C, C = celsOf X.env.cells := ⟨_, rfl⟩
  have inC : ∀ {c}, c ∈ C → ∃ y, X.env.cells.lookup y = some c := fun h => by rw [hC] at h; exact celsOf_iff.mp h
  have ofC : ∀ {y c}, X.env.cells.lookup y = some c → c ∈ C := fun h => by rw [hC]; exact celsOf_iff.mpr ⟨_, h⟩
  clear hC
  have kO : ∀ c ∈ C, ∃ o, s1.heap.get? c = some o := fun c hc => by
    obtain ⟨y, hy⟩ := inC hc
    obtain ⟨_, o, ho, _⟩ := I2.cell y c hy
    exact ⟨o, ho⟩
  have kZ : CelOk C (objC s1.heap) := fun c hc => by
    obtain ⟨o, ho⟩ := kO c hc
    exact ⟨o, by unfold objC; rw [ho]; rfl⟩
  have nH : ∀ c ∈ C, H' c = none := fun c hc => by
    obtain ⟨y, hy⟩ := inC hc
    exact I2.freeC y c hy
  have big : ∀ c ∈ C, s0.heap.objs.size ≤ c := fun c hc => by
    obtain ⟨y, hy⟩ := inC hc
    rw [← b1]
    exact I2.ok.cab y c bf hy
  have n0 : ∀ c ∈ C, H c = none := fun c hc => e0.hok.fresh (big c hc)
  have I4 : Un X.fs X.ex X.H_0 H' X.s_0.heap s1.heap := I2.base
  rw [b1, b2, b3, b4] at I4
  have S2 := I'.stp.newC (M := M.wc (CloK CX P w K mg base N qual sc f cdv ls capt)) (C := C) (Z := objC s1.heap) kZ n0 (fun c hc => sb J.sub (n0 c hc)) (fun c hc => sb I'.sim.sub (nH c hc)) nH
  have J2 : Sim K (M.wc (CloK CX P w K mg base N qual sc f cdv ls capt)) _ hs' s' _ := (I'.sim.wc ns).reC (G := objC s1.heap) (H := objC s1.heap) (fun _ _ => rfl) kZ nH
  have oH : ∀ b o, H' b = some o → DL.reC C (objC s1.heap) H' b = some o := fun b o e => by
    rw [reC_out fun z => by rw [nH b z] at e; cases e]
    exact e
  have oG : Same G' (DL.reC C (objC s1.heap) G') := fun b o e => by
    rw [reC_out fun z => by rw [sb I'.sim.sub (nH b z)] at e; cases e]
    exact e
  refine ⟨v, DL.reC C (objC s1.heap) H', I2.os.trans (by rw [b1]), I2.bare, ⟨I4.keep, I4.slot, fun b o e n hx => ?_, I4.there, fun b xs e => oH _ _ (I4.tups b xs e), fun b o z e => oH _ _ (I4.frzs b o z e), fun b ps e => ?_⟩, HOk.reC (by have := I2.hok; rw [a1, a2] at this; exact this) nH (fun c hc => ?_), rv, hp _ hs' _ S2 J2 v ?_⟩
  · rw [reC_out fun z => absurd (Nat.lt_of_lt_of_le (Heap.lt_size e) (big b z)) (Nat.lt_irrefl _)]
    exact I4.free b o e n hx
  · obtain ⟨more, q⟩ := I4.tbls b ps e
    exact ⟨more, oH _ _ q⟩
  · obtain ⟨o, q⟩ := kO c hc
    exact ⟨o, by unfold objC; rw [q]; rfl, q⟩
  · obtain ⟨vs, hcv, hrv⟩ := grab_capt (ψ := CloK CX P w K mg base N qual sc f cdv ls capt) oG (Pre.refl hs') I'.pl hdv
    refine rep_deed hv nz oG fun f hf => ⟨vs, ?_, hrv⟩
    obtain ⟨_, l, c', e5, e6, e7⟩ : cloP X.env ls G' j f [] := hf
    refine ⟨X, σ', H', s1, l, c', cp, I2, ⟨A, outer, s0, H, E, hX⟩, e5, hcp, hcv, oG _ _ e6, oG _ _ e7, fun y c hy => ?_⟩
    have hc := ofC hy
    obtain ⟨o, q⟩ := kO c hc
    exact ⟨o, q, by rw [reC_in hc]; unfold objC; rw [q]; rfl⟩
theorem fn_okK {x qual : Str} {st : Stmt} {p : He.Defn} {fd : FuncData} {N ps : List Str} {k : Nat} {body : Env → DS → FR} {ls : List Lm} {capt : List (List Nat)} (F : Fun K x qual st (He.fAd K p) fd) (S : FnScope N ps (defScope st))
    (hb : ∀ cdv : Value, cdv = .ref (He.cT K p).1 → ∀ (A : Around) (outer : List PySem.Env) (s : Shared) (H : Hp) (E : XK), Room k (A.deeper (envOfC qual (defScope st) s.heap.objs.size (He.fAd K p) cdv)) →
      DSR (M.wc (Clo.of (envOfC qual (defScope st) s.heap.objs.size (He.fAd K p) cdv) ls)) (cxOf (L2.CX P w) P w K mg base N qual (defScope st) (He.fAd K p) cdv A outer s H E) (defBody st) body) :
    FnOk P w K mg base (L2.CX P w) (k + 1) (He.fAd K p) fd ps (SpD K (M.wc (CloK (L2.CX P w) P w K mg base N qual (defScope st) (He.fAd K p) (.ref (He.cT K p).1) ls capt)) ps.length (deedD N.length capt body)) := by
  obtain ⟨oc, od, kV, doc, pm, an, cdv, ct, osl, rfl, lk, hcd⟩ := F.ex
  obtain ⟨c, hc⟩ := He.codeIn_ref hcd
  have ec : cdv = .ref (He.cT K p).1 := by
    show cdv = .ref (He.codeOf K p)
    rw [He.codeOf_eq (c := c) lk hc, hc]
  subst ec
  refine fn_ofR lk hcd S (fun vs H Q E ⟨G, hs, s, ds, _, r, hl, _⟩ => by rw [← r.length, hl]) fun A outer s0 H vs Q E hr ⟨G, hs, s, ds, J, r, hl, hp⟩ e0 => ?_
  obtain ⟨t, pt, h⟩ := (hb _ rfl A outer s0 H E hr).ex
  unfold deedD at hp
  split at hp
  case isFalse => exact hp.elim
  case isTrue nn =>
    rw [Bool.and_eq_true] at nn
    refine ⟨t, pt, h ⟨G, hs, H, none⟩ (L2.start N vs) H G hs (fun _ => 0) (padE N.length (ds.map .v)) s _ ⟨J.wc nn.1, Stp.refl _ _ _ _, fun i d e => ?_, fun i d e => ?_, fun i j d d' e => ?_, ?_, fun _ _ z => by cases z⟩ ?_⟩
    · have e1 := pad_get e (fun z => by cases z)
      rw [List.getElem?_map, Option.map_eq_some_iff] at e1
      obtain ⟨d', e2, e3⟩ := e1
      cases e3
      obtain ⟨v, h1, h2⟩ := r.get e2
      exact ⟨v, start_get h1, h2.wc d v (noCloL_get nn.2 e2)⟩
    · have e1 := pad_get e (fun z => by cases z)
      rw [List.getElem?_map, Option.map_eq_some_iff] at e1
      obtain ⟨d', e2, e3⟩ := e1
      cases e3
    · have e1 := pad_get e (fun z => by cases z)
      rw [List.getElem?_map, Option.map_eq_some_iff] at e1
      obtain ⟨d', e2, e3⟩ := e1
      cases e3
    · rw [start_len, ← r.length]
      unfold padE
      rw [List.length_append, List.length_replicate, List.length_map]
    · unfold deedK at hp
      split at hp
      · rename_i j z η' s' eb
        rw [eb]
        split at hp
        · rename_i cp hcp
          split at hp
          · rename_i dv hdv
            split at hp
            · rename_i nz
              rw [Bool.and_eq_true] at nz
              exact fun σ' H' G' hs' own' v I' hv s1 u I2 rv => deed_ret e0 J I' hv I2 rv hcp hdv nz.1 nz.2 hp
            · exact hp.elim
          · exact hp.elim
        · exact hp.elim
      · exact hp.elim
end
end DL
set_option Elab.async false
set_option linter.all false
set_option maxRecDepth 100000
set_option maxHeartbeats 4000000
namespace DL
open PySem PySem.Spec PyProof.Rows L2
section
variable {X : Cx} {pins : List (Addr × Obj)} {σ : L2.St} {H HZ H0 : Hp} {s s1 s0 : Shared}
theorem clo_cell {sc : Scope} (L : LamX.LamS X.env.scope sc) (ok : X.Ok) {y : Str} {c : Addr} (e : (cloFrom X.env.cells sc.names []).lookup y = some c) : X.env.cells.lookup y = some c := by
  cases cloFrom_mem (PySem.mem_of_lookup e) with
  | inl z => cases z
  | inr z =>
    obtain ⟨fr, at_⟩ := z
    obtain ⟨d, hd⟩ := L.has ok _ fr rfl
    have hd : X.env.cells.lookup y = some d := hd
    rw [hd] at at_ ⊢
    exact congrArg some at_.symm
/-- a lambda's frame at its start, when the frame that made it has ended: its cells are as it left them -/
theorem lam_start3 {A : Around} {outer : List PySem.Env} {E : XK} {sc : Scope} {f c' : Addr} {h₁ : Heap} {tk : Nat} (I : Inv X pins σ H s) (L : LamX.LamS X.env.scope sc) (e0 : Env0 X.prog X.w X.K X.mg X.base A outer s1 HZ) (hd : A.handled = none)
    (hc : ∀ y c, X.env.cells.lookup y = some c → (∃ o, s.heap.get? c = some o ∧ s1.heap.get? c = some o) ∧ HZ c = none)
    (ns : h₁.Ns s1.heap.objs.size fun y => ([] : List (Str × Value)).reverse.lookup y) (kp : ∀ b o, s1.heap.get? b = some o → h₁.get? b = some o) :
    Inv (LamX.lamCx X A outer s1 HZ E sc f c') [] σ HZ { s1 with heap := h₁, toks := tk } := by
  have cell : ∀ {y c v}, X.env.cells.lookup y = some c → s.heap.IsCell c v → h₁.IsCell c v := fun {y c v} e q => by
    obtain ⟨ob, e1, e2⟩ := q
    obtain ⟨o, q1, q2⟩ := (hc y c e).1
    rw [e1] at q1
    cases q1
    exact ⟨ob, kp _ _ q2, e2⟩
  have frC : ∀ {y}, sc.names.lookup y = some .free → ∃ c, (cloFrom X.env.cells sc.names []).lookup y = some c := fun h => mem_lookup (cloFrom_has (cells := X.env.cells) (acc := []) (PySem.mem_of_lookup h))
  have noL : ∀ {y}, sc.names.lookup y ≠ some .local := fun h => (L.own _ (PySem.mem_of_lookup h)).1 rfl
  have noC : ∀ {y}, sc.names.lookup y ≠ some .cell := fun h => (L.own _ (PySem.mem_of_lookup h)).2 rfl
  have nx : ∀ {b : Addr}, b ∉ (LamX.lamCx X A outer s1 HZ E sc f c').ex := fun h => by cases h
  exact {
    ok := {
      mod := e0.mod, kind := L.kind, glob := rfl, blt := rfl, above := Nat.le_refl _
      inj := fun y z c a b => I.ok.inj y z c (clo_cell L I.ok a) (clo_cell L I.ok b)
      has := fun y h => h.elim (fun h => absurd h noC) frC
      cab := fun _ _ h _ => absurd (show false = true from h) (by decide)
      hd := fun _ => hd, frames := Around.frames_deeper e0.frames, stk := .inr ⟨rfl, rfl⟩
      exf := fun _ h => absurd h nx
      bs := e0.bs, bsz := e0.bsz, noex := fun _ _ _ => nx, exfs := fun _ h => absurd h nx
      funs := e0.funs, frf := e0.frf }
    os := rfl
    bare := e0.bare
    base := Un.kept kp
    loc := ⟨_, ns, fun i y v e1 e2 vis => by
      rcases (show Vis sc y from vis) with k | k | k
      · exact absurd k noL
      · exact absurd k noC
      · obtain ⟨m, hn, hl⟩ := I.loc
        have fr := L.free _ (PySem.mem_of_lookup k) rfl
        obtain ⟨u, r, q⟩ := hl i y v e1 e2 (.inr fr)
        obtain ⟨c, e3⟩ := frC k
        have e4 := clo_cell L I.ok e3
        refine ⟨u, r, .inr ⟨.inr k, c, e3, ?_⟩⟩
        cases q with
        | inl q =>
          have q1 : X.env.scope.names.lookup y = some .local := q.1
          rcases fr with z | z
          · rw [q1] at z
            cases z
          · rw [q1] at z
            cases z
        | inr q =>
          obtain ⟨_, c2, e5, z⟩ := q
          rw [e4] at e5
          cases e5
          exact cell e4 z⟩
    cell := fun y c e => (I.cell y c (clo_cell L I.ok e)).elim fun v q => ⟨v, cell (clo_cell L I.ok e) q⟩
    free := e0.hok.fresh (Nat.le_refl _)
    freeC := fun y c e => (hc y c (clo_cell L I.ok e)).2
    pin := fun p h => by cases h
    hok := e0.hok.kept kp
    len := I.len }
theorem pe_act3 {CXg : CXT} {Eg : XK} {Ng : List Str} {qg : Str} {sg : Scope} {g f c' : Addr} {cdg : Value} {l : Lm} {k i : Nat} {a : Str} {pn : List (Addr × Obj)} {xe : Value → Shared → Prop} {W : WX} {E : XK} {tb : TE} {p1 p2 : Pos} {A : Around} {outer : List PySem.Env}
    (I : Inv X pins σ H s) (L : LamX.LamS X.env.scope l.sc) (hc : ∀ y c, X.env.cells.lookup y = some c → (∃ o, s.heap.get? c = some o ∧ s0.heap.get? c = some o) ∧ H0 c = none ∧ c ∉ frs outer)
    (hbind : ∀ (cl : List (Str × Addr)) (pm cv ctv : Value), bindArgs (PySem.W.kla_fn "<lambda>" (lamQ X) l.ps l.bd l.sc cl pm cv ctv) ⟨[], []⟩ = pure [])
    (tk : Takes ((cxOf CXg X.prog X.w X.K X.mg X.base Ng qg sg g cdg A outer s0 H0 Eg).tr pn xe) W) (hr : Room (k + 1) (A.deeper (envOfC qg sg s0.heap.objs.size g cdg)))
    (hbody : ∀ (A : Around) (outer : List PySem.Env) (s : Shared) (H : Hp), Room k (A.deeper (LamX.lamEnv X l.sc s.heap.objs.size f c')) → PE (LamX.lamCx X A outer s H E l.sc f c') l.bd tb)
    (hN : Ng[i]? = some a) (hv : Vis sg a) (hd : (a == ("__debug__" : Str)) = false) (hcd : (a == ("__classdict__" : Str)) = false) :
    PE ((cxOf CXg X.prog X.w X.K X.mg X.base Ng qg sg g cdg A outer s0 H0 Eg).tr pn xe) (.Call (.Name a p1) [] [] p2)
      (fun σZ HZ Q => (∀ cls d H', E cls d H' → W cls d σZ H') ∧ σZ[i]? = some (some (.ref f)) ∧ HZ f = some (FunO f (lamQ X) l (lamCl X l) c') ∧ HZ c' = some (LamX.CodeO c' (lamQ X)) ∧ tb σ HZ Q) := by
  refine ⟨fun pinsZ sZ σZ HZ Q IZ h => ?_⟩
  obtain ⟨hW, h1, hF, hC, ht⟩ := h
  refine wpAny_Call_Name_kw (thn ((pe_var (pos := p1) (i := i) hN hv hd hcd).run pinsZ sZ σZ HZ (fun v H1 => v = .ref f ∧ H1 = HZ) IZ ⟨.ref f, h1, rfl, rfl⟩) fun u s1 ⟨v, H1, J, r1, q1⟩ => ?_)
  obtain ⟨ev, eH⟩ := q1
  subst ev eH
  obtain rfl : u = Value.ref f := r1
  obtain ⟨⟨pm, ctv, fAt⟩, _, _⟩ := J.hok f _ hF
  obtain ⟨⟨oc, vs, t, hoc, hdc, hvc⟩, _, _⟩ := J.hok c' _ hC
  refine PySem.W.callWith_F0 ⟨_, _, _, _, fAt⟩ ?_
  have un : Un (frs outer) [] H0 H1 s0.heap s1.heap := J.base
  have hc1 : ∀ y c, X.env.cells.lookup y = some c → (∃ o, s.heap.get? c = some o ∧ s1.heap.get? c = some o) ∧ H1 c = none := fun y c e => by
    obtain ⟨⟨o, e1, e2⟩, e3, e4⟩ := hc y c e
    exact ⟨⟨o, e1, un.keep c o e2 e3 e4 (fun z => by cases z)⟩, un.free c o e2 e3 fun z => by cases z⟩
  have run : codeAny (model X.prog X.w) (A.deeper (envOfC qg sg s0.heap.objs.size g cdg)) (.call (.ref f) ⟨[], []⟩) (CR (L2.CX X.prog X.w) (envOfC qg sg s0.heap.objs.size g cdg :: outer) X.prog X.w H1 s1 Q E) s1 := by
    refine PySem.W.kla_callFunE hr.depth fAt rfl L.co L.gen rfl ⟨c', oc, vs, t, rfl, hoc, hdc, hvc⟩ ?_
    rw [hbind]
    refine wpAny_pure (wpAny_newFunctionEnv (fun y hy => (L.own y hy).2) (fun y hy => absurd hy (by simp)) (fun h₁ hns hsb => ⟨J.nolimit.fresh _ hsb, ?_⟩) L.kind)
    show codeAny _ _ (.expr l.bd (LamX.lamEnv X l.sc s1.heap.objs.size f c')) _ _
    have kp : ∀ b o, s1.heap.get? b = some o → h₁.get? b = some o := fun b o e => hsb.extBut b o (Nat.ne_of_lt (Heap.lt_size e)) (Heap.get?_push_of_some _ e)
    have J2 := lam_start3 (E := E) (f := f) (c' := c') (tk := s1.toks + ([] : List (Str × Value)).length) I L J.env0 hr.hd hc1 hns kp
    refine PySem.W.kla_codeExpr (wpAny_mono ((hbody _ _ s1 H1 (hr.deeper _)).run [] _ _ H1 Q J2 ht) (fun v s' ⟨w', H', J', rv, q⟩ => ⟨w', H', J'.os, J'.bare, J'.base, J'.hok, rv, q⟩) fun e s' hq => hq)
  refine wpAny_call (codeAny_mono run fun r s' hq => ?_)
  match r, hq with
  | .error e, hq => exact tk e s' (XE.of_call J hW hq)
  | .ok (.ret u), hq => exact J.after hq
  | .ok .next, hq => exact False.elim hq
  | .ok .brk, hq => exact False.elim hq
  | .ok .cont, hq => exact False.elim hq
end
/-- the names of the frame that has ended: what is captured alone -/
def mkEnv (n : Nat) (cp : List Nat) (dv : List D) : Env := (List.range n).map fun i => match (cp.zip dv).lookup i with
  | some d => .v d
  | none => .no
theorem mkEnv_get {n : Nat} {cp : List Nat} {dv : List D} {i : Nat} {t : Sl} (h : (mkEnv n cp dv)[i]? = some t) : (t = .no ∨ ∃ d, t = .v d ∧ (cp.zip dv).lookup i = some d) := by
  unfold mkEnv at h
  rw [List.getElem?_map, Option.map_eq_some_iff] at h
  obtain ⟨j, h1, h2⟩ := h
  rw [List.getElem?_range (by have := (List.getElem?_eq_some_iff.mp h1).1; rw [List.length_range] at this; exact this)] at h1
  cases h1
  split at h2
  · rename_i d hd
    exact .inr ⟨d, h2.symm, hd⟩
  · exact .inl h2.symm
theorem capt_get {K : PySem.W.Frag} {M : Mp} {G : Hp} {hs : List Addr} {σ : L2.St} {i : Nat} {d : D} : ∀ {cp : List Nat} {dv : List D} {vs : List V}, Capt σ cp vs → RepL K M G hs dv vs → (cp.zip dv).lookup i = some d → ∃ v, σ[i]? = some (some v) ∧ Rep K M G hs d v ∧ d ∈ dv
  | [], _, _, _, _, e => by cases e
  | _ :: _, [], _, _, _, e => by cases e
  | j :: cp, d' :: dv, vs, h, r, e => by
    obtain ⟨v, vr, rfl, h1, h2⟩ := h
    obtain ⟨v', vr', e1, r1, r2⟩ := repL_cons.mp r
    cases e1
    rw [List.zip_cons_cons, List.lookup_cons] at e
    split at e
    · rename_i hj
      cases e
      rw [eq_of_beq hj]
      exact ⟨v, h1, r1, List.mem_cons_self⟩
    · obtain ⟨v2, q1, q2, q3⟩ := capt_get h2 r2 e
      exact ⟨v2, q1, q2, List.mem_cons_of_mem _ q3⟩
def deskD (l : List (Nat × Str)) (n : Nat) (capt : List (List Nat)) (fbs : List (Env → DS → R D)) : List D → DS → R D
  | [.clo j dv], s => match capt[j]?, fbs[j]? with
    | some cp, some fb => if (noCloL s && noCloL dv) = true then toldD l fb (mkEnv n cp dv) s else .bad
    | _, _ => .bad
  | _, _ => .bad
theorem noCloL_mem : ∀ {ds : List D} {d : D}, noCloL ds = true → d ∈ ds → noClo d = true
  | e :: ds, d, n, h => by
    unfold noCloL at n
    rw [Bool.and_eq_true] at n
    cases h with
    | head => exact n.1
    | tail _ h => exact noCloL_mem n.2 h
section
variable {M : Mp} {P : Program} {w : World} {K : PySem.W.Frag} {mg : Str → Option Value} {base : Heap}
theorem fn_okL {CX : CXT} {N Ng : List Str} {q x a : Str} {sc : Scope} {fa g : Addr} {cd : Value} {ls : List Lm} {capt : List (List Nat)} {k : Nat} {st : Stmt} {fd : FuncData} {p1 p2 p3 p8 : Pos} {h₀ : ExceptHandler} {hds : List ExceptHandler} {l : List (Nat × Str)} {fbs : List (Env → DS → R D)}
    (Fu : Fun K x x st g fd) (hb : L2.Binds K fd [a] []) (Sg : FnScope Ng [a] (defScope st)) (hbd : defBody st = [.Try [.Return (some (.Call (.Name a p1) [] [] p2)) p3] (h₀ :: hds) [] [] p8])
    (hh : HdT (defScope st) mg (M.wc (CloK CX P w K mg base N q sc fa cd ls capt)) (h₀ :: hds) l) (hx : ∀ p ∈ l, ∀ r ∈ l, PySem.W.exmOne K (.ref (M.exc p.1)) (.ref (M.exc r.1)) = some (p.1 == r.1)) (hNg : Ng[0]? = some a) (hva : Vis (defScope st) a)
    (hd : (a == ("__debug__" : Str)) = false) (hcd : (a == ("__classdict__" : Str)) = false)
    (hbody : ∀ (j : Nat) (lm : Lm) (fb : Env → DS → R D), ls[j]? = some lm → fbs[j]? = some fb → ∀ (A : Around) (outer : List PySem.Env) (s0 : Shared) (H0 : Hp) (E0 : XK) (X : Cx), X = cxOf CX P w K mg base N q sc fa cd A outer s0 H0 E0 → LmOk X lm ∧
      ∀ (A : Around) (outer : List PySem.Env) (s : Shared) (H : Hp) (E : XK) (f c' : Addr), Room k (A.deeper (LamX.lamEnv X lm.sc s.heap.objs.size f c')) → DE (M.wc (CloK CX P w K mg base N q sc fa cd ls capt)) (LamX.lamCx X A outer s H E lm.sc f c') (WofE E) lm.bd fb) :
    FnOk P w K mg base CX (k + 2) g fd [a] (SpD K (M.wc (CloK CX P w K mg base N q sc fa cd ls capt)) 1 (deskD l N.length capt fbs)) := by
  obtain ⟨⟨oc, od, kV, doc, pm, an, cdv, ct, osl, rfl, lk, hcd2⟩, kp⟩ := Fu
  generalize hψ : CloK CX P w K mg base N q sc fa cd ls capt = ψ at *
  refine ⟨fun vs H Q E ⟨G, hs, s, ds, _, r, hl, _⟩ => by rw [← r.length, hl]; rfl, fun A outer s0 H args us vs Q E hr e0 hbi r hsp => ?_⟩
  obtain ⟨G, hs, s, ds, J, rp, hl, hp⟩ := hsp
  unfold deskD at hp
  split at hp
  case h_2 => exact hp.elim
  rename_i ds' s' j dv
  split at hp
  case h_2 => exact hp.elim
  rename_i cp fb hcp hfb
  split at hp
  case isFalse => exact hp.elim
  rename_i nn
  rw [Bool.and_eq_true] at nn
  obtain ⟨v1, tr, rfl, rc, r2⟩ := repL_cons.mp rp
  obtain rfl := repL_nil.mp r2
  obtain ⟨f, vs, rfl, e4, e5⟩ := rep_clo.mp rc
  have e4 : ψ.f G j f vs := e4
  rw [← hψ] at e4
  obtain ⟨X, σ, H2, s2, lm, c', cp', I, ⟨A2, outer2, s02, H02, E2, hX⟩, h3, h4, h5, h6, h7, h8⟩ := e4
  rw [hcp] at h4
  cases h4
  have a1 : X.prog = P := by rw [hX]; rfl
  have a2 : X.w = w := by rw [hX]; rfl
  have a3 : X.K = K := by rw [hX]; rfl
  have a4 : X.mg = mg := by rw [hX]; rfl
  have a5 : X.base = base := by rw [hX]; rfl
  have a6 : X.N = N := by rw [hX]; rfl
  obtain ⟨LO, hbo⟩ := hbody j lm fb h3 hfb A2 outer2 s02 H02 E2 X hX
  clear hX hbody
  subst a1 a2 a3 a4 a5 a6
  obtain ⟨C, hC⟩ : ∃ C, C = celsOf X.env.cells := ⟨_, rfl⟩
  have inC : ∀ {c}, c ∈ C → ∃ y, X.env.cells.lookup y = some c := fun h => by rw [hC] at h; exact celsOf_iff.mp h
  have ofC : ∀ {y c}, X.env.cells.lookup y = some c → c ∈ C := fun h => by rw [hC]; exact celsOf_iff.mpr ⟨_, h⟩
  clear hC
  have kG : CelOk C G := fun c hc => by
    obtain ⟨y, hy⟩ := inC hc
    obtain ⟨o, _, e⟩ := h8 y c hy
    exact ⟨o, e⟩
  have kH : CelOk C H := fun c hc => by
    obtain ⟨o, e⟩ := kG c hc
    exact ⟨o, J.sub _ _ e⟩
  have eGH : ∀ c ∈ C, G c = H c := fun c hc => by
    obtain ⟨o, e⟩ := kG c hc
    rw [e, J.sub _ _ e]
  have J1 := J.subC nn.1 kG
  obtain ⟨t, pt, kt⟩ := lam_body (X := X) hbo
  have e1 := DL.Env0.subC e0 kH
  have FH : H f = some (FunO f (lamQ X) lm (lamCl X lm) c') := J.sub _ _ h6
  have CH : H c' = some (LamX.CodeO c' (lamQ X)) := J.sub _ _ h7
  have F1 : DL.subC C H f = some (FunO f (lamQ X) lm (lamCl X lm) c') := kH.same _ _ FH fun ob z => by cases z
  have C1 : DL.subC C H c' = some (LamX.CodeO c' (lamQ X)) := kH.same _ _ CH fun ob z => by cases z
  have hc : ∀ y c, X.env.cells.lookup y = some c → (∃ o, s2.heap.get? c = some o ∧ s0.heap.get? c = some o) ∧ DL.subC C H c = none ∧ c ∉ frs outer := fun y c e => by
    obtain ⟨o, q1, q2⟩ := h8 y c e
    have q3 := J.sub _ _ q2
    refine ⟨⟨o, q1, (e0.hok c _ q3).1⟩, subC_in (ofC e), fun z => ?_⟩
    have := e0.frf c z
    rw [q3] at this
    cases this
  let Q' : VK := fun v H1 => (∀ c ∈ C, H1 c = none) → Q v (DL.reC C H H1)
  have run := LamX.run_ofS (CX := C8.CX0) (N := Ng) (ps := [a]) (us := us) (vs := [.ref f]) (Q := Q') (E := C8.E0) lk hcd2 Sg hr e1 hbi r rfl fun hr' => by
    have gv := told_many (X := { X with A := A, stack := outer }) (Ng := Ng) (x := x) (q := lamQ X) (g := g) (cdg := cdv) (p1 := p1) (p2 := p2) (p3 := p3) (p8 := p8) (a := a) hh fun f => start_get rfl
    have tt : t (ToldW X.K (M.wc ψ) Q' l) σ (DL.subC C H) Q' := by
      refine kt _ ⟨DL.subC C G, hs, DL.subC C H, none⟩ σ _ (DL.subC C G) hs (fun _ => 0) (mkEnv X.N.length cp dv) s _ ⟨J1, Stp.refl _ _ _ _, fun i d e => ?_, fun i d e => ?_, fun i j d d' e => ?_, ?_, fun _ _ z => by cases z⟩ ?_
      · obtain e | ⟨d', e, q⟩ := mkEnv_get e
        · cases e
        · cases e
          obtain ⟨v, q1, q2, q3⟩ := capt_get h5 e5 q
          exact ⟨v, q1, q2.sx kG.same d v (noCloL_mem nn.2 q3)⟩
      · obtain e | ⟨d', e, q⟩ := mkEnv_get e <;> cases e
      · obtain e | ⟨d', e, q⟩ := mkEnv_get e <;> cases e
      · rw [I.len]
        unfold mkEnv
        rw [List.length_map, List.length_range]
      · have z : RPost X.K (M.wc ψ) σ (WofE E) (DL.subC C G) hs (DL.subC C H) (toldD l fb (mkEnv X.N.length cp dv) s) (fun d G' hs' _ H' => ∀ v, Rep X.K (M.wc ψ) G' hs' d v → Q' v H') := by
          cases er : toldD l fb (mkEnv X.N.length cp dv) s with
          | bad => rw [er] at hp; exact hp
          | ex c p s3 =>
            unfold toldD at er
            split at er
            · cases er
            · split at er <;> cases er
            · cases er
          | ok d s3 =>
            rw [er] at hp
            intro G1 hs1 H1 S1 J3 v rv nH
            have nG : ∀ c ∈ C, G1 c = none := fun c hc => by
              cases q : G1 c with
              | none => rfl
              | some o =>
                have q2 := J3.sub c o q
                rw [nH c hc] at q2
                cases q2
            refine hp _ _ _ (Stp.reC S1 J3 eGH kG nH) (Sim.reC J3 eGH kG nH) v (rv.mono (fun b o e => ?_) (Pre.refl _))
            rw [reC_out fun z => by rw [nG b z] at e; cases e]
            exact e
        exact z.toldK hx
    obtain ⟨u, hu, hq⟩ := gv f c' s0 (DL.subC C H) Q' (fun E H' Q' => H' f = some (FunO f (lamQ X) lm (lamCl X lm) c') ∧ t E σ H' Q') (fun W pn xe E p1 p2 tk hW =>
      ⟨fun pins sz σz Hz Qz Iz h => (pe_act3 (i := 0) (E := E) (tb := t E) (p1 := p1) (p2 := p2) I LO.L hc (LO.b _) tk hr' (fun A outer s H hr2 => pt A outer s H E f c' hr2) hNg hva hd hcd).run pins sz σz Hz Qz Iz ⟨fun cls d H' => hW cls d σz H', h.1, h.2.2.1, h.2.1, h.2.2.2⟩⟩) C1 ⟨F1, tt⟩
    exact ⟨u, hbd ▸ hu.nox, hq⟩
  refine codeAny_mono run fun r s1 hq => ?_
  match r, hq with
  | .error e, hq => exact (show False from hq).elim
  | .ok (.ret u), hq => exact CE.reC e0 kH hq fun v H' n q => q n
  | .ok .next, hq => exact False.elim hq
  | .ok .brk, hq => exact False.elim hq
  | .ok .cont, hq => exact False.elim hq
end
end DL
set_option Elab.async false
set_option linter.all false
set_option maxRecDepth 100000
set_option maxHeartbeats 2000000
namespace DL
open PySem PySem.Spec PyProof.Rows L2
def popLM (i : Nat) (pl : Plc) (η : Env) (s : DS) : Option D → F
  | some (.lst ds) => match ds[ds.length - 1]? with
    | some d => popSet i pl d ds.dropLast η s
    | none => .bad
  | _ => .bad
def popLB (i : Nat) (fp : Env → DS → R Plc) : Env → DS → F := fun η s => (fp η s).toF η fun pl s1 => popLM i pl η s1 (plcD pl η s1)
section
variable {M : Mp} {X : Cx} {W : WX}
theorem RepL.dropLast {K : PySem.W.Frag} {G : Hp} {hs : List Addr} {ds : List D} {vs : List V} (r : RepL K M G hs ds vs) : RepL K M G hs ds.dropLast vs.dropLast := by
  rw [List.dropLast_eq_take, List.dropLast_eq_take, r.length]
  exact r.take _
theorem popL_post {A : Anc} {σ : L2.St} {H G : Hp} {hs : List Addr} {own : Nat → Addr} {η : Env} {s : DS} {E : Ends} {i : Nat} {pl : Plc} {v : V} (I : Sm X.K M A σ H G hs own η s) (hv : PV own hs η pl v) (hp : FPost X.K M A W E (popLM i pl η s (plcD pl η s))) :
    tyV X.K "list" v H ∧ ∃ a xs y, v = .ref a ∧ H a = some (.lst xs) ∧ xs[xs.length - 1]? = some y ∧ E.nx (σ.set i (some y)) (upd H a (.lst xs.dropLast)) := by
  generalize ed : plcD pl η s = o at hp
  unfold popLM at hp
  split at hp
  case h_2 => exact hp.elim
  rename_i ds
  split at hp
  case h_2 => exact hp.elim
  rename_i d hd
  cases pl with
  | slot j =>
    obtain ⟨rfl, d0, e0⟩ := hv
    have ed2 : η[j]? = some (.o (.lst ds)) := by
      simp only [plcD, e0] at ed
      rw [e0, Option.some.inj ed]
    have At0 := (I.ow j _ ed2).2.1
    obtain ⟨ws, h1, h2⟩ := id At0
    obtain ⟨y, h3, h4⟩ := h2.get hd
    rw [h2.length] at h3
    exact ⟨isLst_ty _ _ _ _ _ At0 rfl, _, ws, y, rfl, h1, h3, FPost.put (I.wr ed2 (show At X.K M G hs (upd H (own j) (.lst ws.dropLast)) (own j) (.lst ds.dropLast) from ⟨_, upd_same, h2.dropLast⟩)) h4 hp⟩
  | han k =>
    obtain ⟨a, rfl, ha⟩ := hv
    have ed2 : s[k]? = some (.lst ds) := ed
    have At0 := I.sim.han k a _ ha ed2
    obtain ⟨ws, h1, h2⟩ := id At0
    obtain ⟨y, h3, h4⟩ := h2.get hd
    rw [h2.length] at h3
    obtain ⟨S1, J1⟩ := I.sim.wr ha ed2 (show At X.K M G hs (upd H a (.lst ws.dropLast)) a (.lst ds.dropLast) from ⟨_, upd_same, h2.dropLast⟩)
    exact ⟨isLst_ty _ _ _ _ _ At0 rfl, a, ws, y, rfl, h1, h3, FPost.put (I.step S1 J1) h4 hp⟩
theorem ds_popL (i : Nat) {x : Str} {o : Expr} {fp : Env → DS → R Plc} {pos' apos cpos pos : Pos} (hN : X.N.Nodup) (ho : DP M X W o fp) (hi : X.N[i]? = some x := by rfl) (hx : Loc X.env.scope x := by first | exact Or.inl rfl | exact Or.inr rfl)
    (hs : swapsWith (.Call (.Attribute o "pop" apos) [] [] cpos) (some (.Name x pos')) pos.line X.env = pure false := by rfl) (hf : X.fn x = true ∨ X.env.scope.names.lookup x = some .local := by first | exact .inl rfl | exact .inr rfl)
    (hbase : attributeBase o "pop" X.env (eval o X.env) = eval o X.env := by rfl) (hline : (apos.endLine == cpos.line) = true := by rfl) :
    DSt M X W (.Assign [.Name x pos'] (.Call (.Attribute o "pop" apos) [] [] cpos) pos) (popLB i fp) := by
  obtain ⟨t, p, h⟩ := ho.ex
  refine ⟨_, ps_set hN hi hx (pe_bm0 PySem.F.plainAttrs_list PySem.F.slot_list_pop PySem.F.type_list_pop mt_pop p hbase hline) hs hf, fun A σ H G hs own η s E I hp => ?_⟩
  refine h A σ H G hs own η s _ I ((hp.lift I).mono fun pl G1 hs1 s1 H1 S1 J1 h1 v hv => ?_)
  obtain ⟨ty, a, xs, y, rfl, q1, q2, q3⟩ := popL_post (I.step S1 J1) hv h1
  exact ⟨ty, a, xs, y, rfl, rfl, q1, q2, q3⟩
end
end DL
set_option Elab.async false
set_option linter.all false
set_option maxRecDepth 100000
set_option maxHeartbeats 4000000
namespace DL
open PySem PySem.Spec PyProof PyProof.Rows L2
/-- u is an error's object, its context is c -/
def CtxIs (u c : Value) (h : Heap) : Prop := ∃ (a : Addr) (o : Obj) (vs : Array Value), u = .ref a ∧ h.get? a = some o ∧ o.data = .fields vs ∧ vs[2]? = some c
def CtxOk (c : Value) (H : Hp) : Prop := c = .none ∨ ∃ (a : Addr) (o : Obj) (vs : Array Value), c = .ref a ∧ H a = some (exO o) ∧ o.data = .fields vs ∧ vs[2]? = some .none
def CtxC (c : Value) (o : Obj) : Prop := ∀ vs : Array Value, o.data = .fields vs → vs[2]? = some c
theorem CtxC.steady {c : Value} : PXN.Steady1 (CtxC c) := fun o v h => by
  obtain ⟨k, d, dt, sl⟩ := o
  cases dt with
  | fields ws =>
    intro vs e
    obtain rfl : ws.setIfInBounds 1 v = vs := Data.fields.inj e
    rw [Array.getElem?_setIfInBounds_ne (by decide)]
    exact h ws rfl
  | _ =>
    intro vs e
    cases e
abbrev Zk (cls : Value) (d : Option Addr) (c : Value) : Obj → Prop := fun o => Zc cls d o ∧ CtxC c o
theorem Zk.steady {cls : Value} {d : Option Addr} {c : Value} : PXN.Steady1 (Zk cls d c) := PXN.steady_and (Z := Zc cls d) (fun _ _ h => Zc.steady _ _ h) CtxC.steady
def CXk (P : Program) (w : World) : CXT := fun outer H s E u s' => ∃ c, CtxIs u c s'.heap ∧ L2.CX P w outer H s (fun cls d H' => E cls d H' ∧ CtxOk c H') u s'
def TakesP (ok : Value → Hp → Prop) (X : Cx) (W : WX) : Prop := ∀ (u : Value) (s' : Shared) (c : Value), L2.XE X (fun cls d σ H => W cls d σ H ∧ ok c H) u s' → CtxIs u c s'.heap → X.xe u s'
abbrev Takesk (X : Cx) (W : WX) : Prop := TakesP CtxOk X W
theorem flyingZ_ctx {B : Heap} {l : List PySem.Env} {a : Addr} {Z : Obj → Prop} {c : Value} {h : Heap} (x : HandSPX.FlyingZ B l a Z h) (k : ∀ o, Z o → CtxC c o) : CtxIs (.ref a) c h := by
  obtain ⟨_, _, _, oe, vs, T, oT, ts, he, hz, hd, r⟩ := x
  exact ⟨a, oe, vs, rfl, he, hd, k _ hz vs hd⟩
section
variable {X : Cx} {W : WX}
/-- what has no context is taken -/
theorem TakesP.n {ok : Value → Hp → Prop} (h0 : ∀ H, ok .none H) (tk : TakesP ok X W) : L2N.Takes X W := fun u s' ⟨a, B, sI, pins, σ, H, cls, d, e, I, nb, up, sky, na, os, ag, w⟩ => by
  subst e
  have weak : ∀ o, L2N.Zn cls d o → Zc cls d o := fun o z => z.zc
  refine tk _ s' .none ⟨a, B, sI, pins, σ, H, cls, d, rfl, I, nb, up, ?_, na, os, ag, w, h0 _⟩ ?_
  · rcases sky with ⟨h1, h2, h3, oe, vs, h4, h5, h6⟩ | fl | ⟨h1, h2, h3, hh⟩
    · exact .inl ⟨h1, h2, h3, oe, vs, h4, weak _ h5, h6⟩
    · exact .inr (.inl (L2H.flyingZ_imp weak fl))
    · exact .inr (.inr ⟨h1, h2, h3, L2H.tracedZ_imp weak hh⟩)
  · rcases sky with ⟨h1, h2, h3, oe, vs, h4, h5, h6, _⟩ | fl | ⟨h1, h2, h3, oe, vs, T, oT, ts, he, hz, hd, r⟩
    · exact ⟨a, oe, vs, rfl, h4, h6, h5.2.2 vs h6⟩
    · exact flyingZ_ctx fl fun o z => z.2.2
    · exact ⟨a, oe, vs, rfl, he, hd, hz.2.2 vs hd⟩
theorem Takesk.n (tk : Takesk X W) : L2N.Takes X W := TakesP.n (fun _ => .inl rfl) tk
/-- the sky, sharpened by what is known of the object -/
theorem sky_ctx {B : Heap} {l : List PySem.Env} {a : Addr} {cls : Value} {d : Option Addr} {L : Addr} {h : Heap} {c : Value} (x : Sky B l a (Zc cls d) L h) (k : CtxIs (.ref a) c h) : Sky B l a (Zk cls d c) L h := by
  obtain ⟨a', o, vs, e, h1, h2, h3⟩ := k
  cases e
  have up : ∀ oe, h.get? a = some oe → CtxC c oe := fun oe q ws e => by
    rw [h1] at q
    cases q
    rw [h2] at e
    cases e
    exact h3
  rcases x with ⟨q1, q2, q3, oe, ws, q4, q5, q6⟩ | ⟨q1, q2, q3, oe, ws, T, oT, ts, he, hz, r⟩ | ⟨q1, q2, q3, oe, ws, T, oT, ts, he, hz, r⟩
  · exact .inl ⟨q1, q2, q3, oe, ws, q4, ⟨q5, up _ q4⟩, q6⟩
  · exact .inr (.inl ⟨q1, q2, q3, oe, ws, T, oT, ts, he, ⟨hz, up _ he⟩, r⟩)
  · exact .inr (.inr ⟨q1, q2, q3, oe, ws, T, oT, ts, he, ⟨hz, up _ he⟩, r⟩)
/-- out of a def -/
theorem sky_leave {M : Model} {A : Around} {E₁ : Value → Shared → Prop} {env : PySem.Env} {outer : List PySem.Env} {B : Heap} {a L : Addr} {Z : Obj → Prop} {s : Shared} {Q : Unit → Shared → Prop} (hZ : PXN.Steady1 Z) (hfr : A.frames = some (env :: outer)) (hf : env.frame = some L)
    (x : Sky B (env :: outer) a Z L s.heap) (hQ : ∀ h', HandSPX.FlyingZ B outer a Z h' → s.heap.UpToSlots h' → Q () { s with heap := h' }) : wpAny M A (leaving env (.ref a)) Q E₁ s := by
  obtain ⟨q1, q2, q3, oe, vs, q4, q5, q6, q7⟩ | fl | hd := x
  · exact PXN.leaving_firstZ hZ hfr q3 hf q4 q1 q2 q6 q7 q5 hQ
  · exact PXN.leaves_onZ hZ hfr hf fl hQ
  · exact HandSPX.leaves_heldZ hf hd hQ
theorem takes_ofk {E : XK} (hs : X.stack = X.env :: X.outer) (hf : X.env.frame = some X.env.locals) (hex : X.ex = []) {E₁ : Value → Shared → Prop}
    (hx : X.xe = fun e s' => wpAny (model X.prog X.w) X.A (leaving X.env e) (fun _ s'' => CXk X.prog X.w X.outer X.H_0 X.s_0 E e s'') E₁ s') : Takesk X (WofE E) := by
  intro u s' c x k
  rw [hx]
  obtain ⟨a, B, sI, pins, σ, H, cls, d, rfl, I, nb, up, sky, na, os, ag, w, co⟩ := x
  rw [hs] at sky
  refine sky_leave Zk.steady (by rw [I.ok.frames, hs]) hf (sky_ctx sky k) fun h' fl up' => ⟨c, flyingZ_ctx fl fun o z => z.2, a, B, H, cls, d, rfl, L2H.flyingZ_imp (fun o z => z.1) fl, I.inGround nb, ?_, na, os.trans I.os, ag, w, co⟩
  have far : ∀ {b o}, X.s_0.heap.get? b = some o → b ∉ X.fs → b ∉ frs X.stack := fun {b o} e hb m => by
    cases List.mem_cons.mp (I.stkSub b m) with
    | inr z => exact hb z
    | inl z =>
      have lo := I.ok.above
      rw [← z] at lo
      exact Nat.lt_irrefl _ (Nat.lt_of_lt_of_le (Heap.lt_size e) lo)
  have nx : ∀ {b}, b ∉ X.ex := fun {b} m => by
    rw [hex] at m
    cases m
  exact {
    keep := fun b o e n hb => nb b o (I.base.keep b o e n hb nx) (far e hb)
    slot := fun b o e hb => by
      obtain ⟨_, o1, e1, nf⟩ := I.ok.funs.mem hb
      obtain rfl : o = o1 := Option.some.inj (e.symm.trans e1)
      obtain ⟨s1, t1⟩ := I.base.slot b o e (I.ok.frf b hb) hb nx
      obtain ⟨s2, t2⟩ := up b _ t1 nf
      obtain ⟨s3, t3⟩ := up' b _ t2 nf
      exact ⟨s3, t3⟩
    free := fun b o e n => I.base.free b o e n nx
    there := fun b o e hb => (I.base.there b o e nx).elim fun o' e' => ⟨o', nb b o' e' (far e hb)⟩
    tups := I.base.tups
    frzs := I.base.frzs
    tbls := I.base.tbls }
end
end DL
set_option Elab.async false
set_option linter.all false
set_option maxRecDepth 100000
set_option maxHeartbeats 4000000
namespace DL
open PySem PySem.Spec PyProof PyProof.Rows L2
/-- out of the suite: the caught error may be held exactly from now on -/
def Way (X : Cx) (a : Addr) (oe : Obj) (pins : List (Addr × Obj)) : Prop := ∀ {pn' : List (Addr × Obj)} {σ : L2.St} {H : Hp} {s : Shared}, Inv (L2H.suiteX X a ((a, oe) :: (X.pn ++ pins))) pn' σ H s → Inv X pins σ H s ∧ Inv X pins σ (upd H a (exO oe)) s
section
variable {X : Cx} {pins : List (Addr × Obj)} {σ : L2.St} {H : Hp} {s : Shared}
/-- an object that is new since the def began, held exactly from now on -/
theorem inv_hold {a : Addr} {o : Obj} {vs : Array Value} (I : Inv X pins σ H s) (ea : s.heap.get? a = some o) (da : o.data = .fields vs) (na : H a = none) (new : X.s_0.heap.get? a = none) (nL : a ≠ X.env.locals) (np : ∀ p ∈ X.pn ++ pins, p.1 ≠ a) : Inv X pins σ (upd H a (exO o)) s := by
  have ne : ∀ {b} {u : HO}, H b = some u → b ≠ a := fun e z => by
    rw [z, na] at e
    cases e
  have un : ∀ b u, H b = some u → upd H a (exO o) b = some u := fun b u e => by
    rw [upd_ne (ne e)]
    exact e
  have old : ∀ {b u}, X.s_0.heap.get? b = some u → b ≠ a := fun e z => by
    rw [z, new] at e
    cases e
  have base : Un X.fs X.ex X.H_0 (upd H a (exO o)) X.s_0.heap s.heap := {
    keep := I.base.keep
    slot := I.base.slot
    free := fun b u e n hx => by
      rw [upd_ne (old e)]
      exact I.base.free b u e n hx
    there := I.base.there
    tups := fun b xs e => un _ _ (I.base.tups b xs e)
    frzs := fun b u z e => un _ _ (I.base.frzs b u z e)
    tbls := fun b ps e => (I.base.tbls b ps e).elim fun more q => ⟨more, un _ _ q⟩ }
  have hok : HOk X.prog X.w (upd H a (exO o)) s.heap := fun b u e => by
    by_cases z : b = a
    · subst z
      rw [upd_same] at e
      cases e
      exact exO_ok ea
    · rw [upd_ne z] at e
      exact (I.hok b u e).stay (fun _ _ _ q => q) (fun c q => un c _ q) fun c xs q => un c _ q
  have nc : ∀ {x c}, X.env.cells.lookup x = some c → c ≠ a := fun {x c} e z => by
    obtain ⟨v, ob, q1, q2⟩ := I.cell x c e
    rw [z, ea] at q1
    cases q1
    rw [da] at q2
    cases q2
  have pin : ∀ p ∈ X.pn ++ pins, s.heap.get? p.1 = some p.2 ∧ upd H a (exO o) p.1 = none ∧ p.1 ≠ X.env.locals ∧ p.1 ∉ X.fs ∧ ∀ v, p.2.data ≠ .cell v := fun p hp => by
    obtain ⟨q1, q2, q3⟩ := I.pin p hp
    exact ⟨q1, by rw [upd_ne (np p hp)]; exact q2, q3⟩
  exact ⟨I.ok, I.os, I.bare, base, I.loc, I.cell, by rw [upd_ne (Ne.symm nL)]; exact I.free, fun x c e => by rw [upd_ne (nc e)]; exact I.freeC x c e, pin, hok, I.len⟩
end
section
variable {X : Cx} {x : Str} {c : Value} {body suite : List Stmt} {b₀ : Stmt} {np pos pos' : Pos} {tb : WX → TS} {ts : Addr → Obj → Value → Option Addr → Value → TS}
abbrev wTryK (ok : Value → Hp → Prop) (K : PySem.W.Frag) (c : Value) (ts : Addr → Obj → Value → Option Addr → Value → TS) (D : Ends) : WX := fun cls d σ H => PySem.W.exmOne K cls c = some true ∧ ∀ a oe cx, H a = none → ok cx H → ts a oe cls d cx D σ H
theorem ps_tryP {ok : Value → Hp → Prop} (hs : X.stack = X.env :: X.outer) (hf : X.env.frame = some X.env.locals) (hex : X.ex = []) (hc : Names X x c) (hpa : ∀ hd : Option Value, PassesOwnAt (model X.prog X.w) (X.A.mark hd) X.A X.env X.xe)
    (hb : ∀ (W : WX) (pn : List (Addr × Obj)) (xe : Value → Shared → Prop), TakesP ok (X.tr pn xe) W → PassesOwn (model X.prog X.w) X.A X.env xe → PSs (X.tr pn xe) body (tb W))
    (hsu : ∀ (a : Addr) (oe : Obj) (cls : Value) (d : Option Addr) (cx : Value) (pins : List (Addr × Obj)), CtxC cx oe → (∃ vs, oe.data = .fields vs) → Way X a oe pins → PSs (L2H.suiteX X a ((a, oe) :: (X.pn ++ pins))) (b₀ :: suite) (ts a oe cls d cx)) :
    PS X (.Try body [.ExceptHandler (some (.Name x np)) none (b₀ :: suite) pos'] [] [] pos) (fun D σ H => tb (wTryK ok X.K c ts D) D σ H) := by
  refine ⟨fun pins s σ H D I h => wpAny_Try_except ?_⟩
  have okI := I.ok
  have hfr : X.A.frames = some (X.env :: X.outer) := by rw [okI.frames, hs]
  refine wpAny_mono ((hb (wTryK ok X.K c ts D) (X.pn ++ pins) (fun e s₁ => wpAny (model X.prog X.w) X.A (noteFrame e X.env) (fun _ s₂ => wpAny (model X.prog X.w) X.A (setFlight e none) (fun _ s₃ =>
    wpAny (model X.prog X.w) X.A (handleBy e X.env [.ExceptHandler (some (.Name x np)) none (b₀ :: suite) pos']) (SP X pins D) X.xe s₃) X.xe s₂) X.xe s₁) (fun u s' cx xx ck => ?_) PassesOwn.looking).run [] s σ H D (I.toTry _) h) (fun f s1 hsp => ?_) fun _ _ z => z
  · obtain ⟨a, B, sI, pins', σ', H', cls, d, rfl, J', nb, up, sky, na, os, ag, ⟨hb1, hyes⟩, co⟩ := xx
    have J : Inv X pins σ' H' sI := J'.ofTry okI
    have sky : Sky B X.stack a (Zc cls d) X.env.locals s'.heap := sky
    rw [hs] at sky
    show wpAny _ X.A (noteFrame (.ref a) X.env) _ _ _
    refine L2N.Sky.land Zk.steady hfr hf (sky_ctx sky ck) fun h3 fl3 up3 => ?_
    have J3 : Inv X pins σ' H' { s' with heap := h3 } := J.landed nb fl3.1 (up.trans up3) os ag
    obtain ⟨oe3, vs3, he3, hz3, hd3⟩ := fl3.there
    have nfr : a ∉ frs (X.env :: X.outer) := fun m => by
      obtain ⟨_, o', e', nf⟩ := fl3.2.2.1.mem m
      obtain rfl : oe3 = o' := Option.some.inj (he3.symm.trans e')
      exact nf _ hd3
    have nL : a ≠ X.env.locals := fun z => nfr (List.mem_filterMap.mpr ⟨X.env, .head _, by rw [z]; exact hf⟩)
    have nF : a ∉ X.fs := fun m => (List.mem_filterMap.mp m).elim fun e q => nfr (List.mem_filterMap.mpr ⟨e, .tail _ q.1, q.2⟩)
    have S3 := J3.suite he3 hd3 na nL nF
    refine wpAny_handleBy_cons (codeAny_handlers_test ?_) fun z => by cases z
    have LT : PySem.W.Looks (model X.prog X.w) h3 (typeOf (.ref a)) cls := fun _ _ _ _ k q => wpAny_typeOf_ref (k _ _ he3) (by rw [hz3.1.1]; exact q)
    have LM := PySem.W.exm_one (M := model X.prog X.w) (J3.kIn) LT hb1
    have test : ∀ {Q E : Value → Shared → Prop}, Q c { s' with heap := h3 } → wpAny (model X.prog X.w) (X.A.mark (some (.ref a))) (eval (.Name x np) X.env) Q E { s' with heap := h3 } := fun {Q E} q => by
      obtain ⟨hg, hdbg, hm | ⟨hm, hv, hnn⟩⟩ := hc
      · exact ld_glob (X := X.suite a ((a, oe3) :: (X.pn ++ pins))) S3 hg hm q hdbg
      · exact ld_blt (X := X.suite a ((a, oe3) :: (X.pn ++ pins))) S3 hg hm hv q hnn hdbg
    refine test (LM.here (codeAny_handlers_suite ?_))
    refine HandSPX.lands_againZ fl3 fun h4 fl4 up4 => ?_
    have J4 : Inv X pins σ' H' { s' with heap := h4 } := J.landed nb fl4.1 ((up.trans up3).trans up4) os ag
    obtain ⟨oe4, vs4, he4, hz4, hd4⟩ := fl4.there
    have S4 := J4.suite he4 hd4 na nL nF
    have inB : ∀ {b o}, sI.heap.get? b = some o → b ∉ frs X.stack → b ≠ a := fun {b o} e n z => by
      have e1 := nb b o e n
      rw [z, fl4.2.1] at e1
      cases e1
    have new : X.s_0.heap.get? a = none := by
      cases q : X.s_0.heap.get? a with
      | none => rfl
      | some o =>
        obtain ⟨o', e⟩ := J.base.there a o q (by rw [hex]; exact fun z => by cases z)
        exact absurd rfl (inB e (by rw [hs]; exact nfr))
    have npn : ∀ p ∈ X.pn ++ pins, p.1 ≠ a := fun p hp => by
      obtain ⟨e, _, n1, n2, _⟩ := J.pin p hp
      refine inB e fun m => ?_
      rcases List.mem_cons.mp (J.stkSub p.1 m) with z | z
      · exact n1 z
      · exact n2 z
    have way : Way X a oe4 pins := fun {pn' σ5 H5 s5} I5 => by
      have I6 : Inv X pins σ5 H5 s5 := L2H.unsuiteX I5 okI
      obtain ⟨e5, n5, _⟩ := I5.pin (a, oe4) (List.mem_append_left _ (.head _))
      exact ⟨I6, inv_hold I6 e5 hd4 n5 new nL npn⟩
    refine wpAny_mono ((hsu a oe4 cls d cx pins hz4.2 ⟨_, hd4⟩ way).run [] _ _ H' D (L2H.suiteX_of S4) (hyes a oe4 cx na co)) (fun f s6 hsp => ?_) fun e6 s6 z => hpa (some (.ref a)) e6 s6 z
    cases f with
    | ret u =>
      obtain ⟨v6, σ6, H6, S6, r6, q6⟩ := hsp
      exact ⟨v6, σ6, H6, (way S6).1, r6, q6⟩
    | next => exact hsp.elim fun σ6 q => q.elim fun H6 q => ⟨σ6, H6, (way q.1).1, q.2⟩
    | brk => exact hsp.elim fun σ6 q => q.elim fun H6 q => ⟨σ6, H6, (way q.1).1, q.2⟩
    | cont => exact hsp.elim fun σ6 q => q.elim fun H6 q => ⟨σ6, H6, (way q.1).1, q.2⟩
  · cases f with
    | next => exact hsp.elim fun σ' q => q.elim fun H' q => wpAny_execs_nil ⟨σ', H', q.1.ofTry okI, q.2⟩
    | brk => exact hsp.elim fun σ' q => q.elim fun H' q => ⟨σ', H', q.1.ofTry okI, q.2⟩
    | cont => exact hsp.elim fun σ' q => q.elim fun H' q => ⟨σ', H', q.1.ofTry okI, q.2⟩
    | ret u => exact hsp.elim fun v q => q.elim fun σ' q => q.elim fun H' q => ⟨v, σ', H', q.1.ofTry okI, q.2⟩
end
end DL
set_option Elab.async false
set_option linter.all false
set_option maxRecDepth 100000
set_option maxHeartbeats 4000000
namespace DL
open PySem PySem.Spec PyProof PyProof.Rows L2
/-- x is handled; its context is None, or an error whose context is None -/
def HotK (A : Around) (x : Addr) (h : Heap) : Prop := A.handled = some (.ref x) ∧ ∃ (o : Obj) (vs : Array Value) (c : Value), h.get? x = some o ∧ o.data = .fields vs ∧ vs[2]? = some c ∧
  (c = .none ∨ ∃ (a1 : Addr) (o1 : Obj) (v1 : Array Value), c = .ref a1 ∧ a1 ≠ x ∧ h.get? a1 = some o1 ∧ o1.data = .fields v1 ∧ v1[2]? = some .none)
section
variable {prog : Program} {w : World} {A : Around} {E : Value → Shared → Prop} {s : Shared}
theorem ref_beq {a b : Addr} (h : a ≠ b) : (Value.ref a == Value.ref b) = false := by
  cases q : (Value.ref a == Value.ref b) with
  | false => rfl
  | true => exact absurd (Value.ref.inj (eq_of_beq q)) h
theorem unchain_end {a x sl : Addr} {tg : Bool} {o : Obj} {vs : Array Value} {R : Result → Shared → Prop} (h1 : s.heap.get? x = some o) (d1 : o.data = .fields vs) (c1 : vs[2]? = some .none) (q : R (.ok (.ret .none)) s) :
    codeAny (model prog w) A (.builtin "proto.unchain" ⟨[.ref a, .ref x, .ref sl, .bool tg], []⟩) R s := by
  refine codeAny_builtin HotX.entry_unchain ?_
  show wpAny _ _ (field (.ref x) 2 >>= _) _ _ s
  refine wpAny_bind (wpAny_field h1 d1 c1 ?_)
  rw [if_pos (by rfl : (Value.none == Value.none) = true)]
  first
  | exact wpAny_pure q
  | exact wpAny_bind (wpAny_pure (wpAny_pure q))
theorem unchain_link {a x a1 : Addr} {o o1 : Obj} {vs v1 : Array Value} {R : Result → Shared → Prop} (h1 : s.heap.get? x = some o) (d1 : o.data = .fields vs) (c1 : vs[2]? = some (.ref a1)) (na : a1 ≠ a) (nx : a1 ≠ x)
    (h2 : s.heap.get? a1 = some o1) (d2 : o1.data = .fields v1) (c2 : v1[2]? = some .none) (q : R (.ok (.ret .none)) s) : codeAny (model prog w) A (.builtin "proto.unchain" ⟨[.ref a, .ref x, .ref x, .bool false], []⟩) R s := by
  refine codeAny_builtin HotX.entry_unchain ?_
  show wpAny _ _ (field (.ref x) 2 >>= _) _ _ s
  refine wpAny_bind (wpAny_field h1 d1 c1 ?_)
  rw [if_neg (by simp)]
  rw [if_neg (by rw [ref_beq na]; exact Bool.false_ne_true), if_neg (by rw [ref_beq nx]; exact Bool.false_ne_true)]
  refine wpAny_bind ?_
  exact wpAny_pure (wpAny_pure ⟨Code.quiet_builtin _ (by decide +kernel), unchain_end h2 d2 c2 q⟩)
theorem raiseNew_hotK {α : Type} {a x : Addr} {oe : Obj} {vs : Array Value} {Q : α → Shared → Prop} (hot : HotK A x s.heap) (hne : x ≠ a) (hn1 : ∀ o v, s.heap.get? x = some o → o.data = .fields v → v[2]? ≠ some (.ref a)) (ha : s.heap.get? a = some oe) (da : oe.data = .fields vs) (hi : 2 < vs.size)
    (hE : E (.ref a) { s with heap := s.heap.update a (Obj.mapFields (·.setIfInBounds 2 (.ref x))) }) : wpAny (model prog w) A (raiseNew (.ref a) : Sem α) Q E s := by
  obtain ⟨hh, o, v, c, h1, d1, c1, hc⟩ := hot
  unfold raiseNew
  refine wpAny_bind (wpAny_handled ?_)
  rw [hh]
  have hb := HotX.ref_bne hne
  have un : ∀ {Q : Value → Shared → Prop}, Q .none s → wpAny (model prog w) A (holding [Value.ref a] (runValue (.builtin "proto.unchain" ⟨[.ref a, .ref x, .ref x, .bool false], []⟩))) Q E s := fun {Q} q => by
    refine wpAny_holding (wpAny_runValue ?_)
    rcases hc with rfl | ⟨a1, o1, v1, rfl, nx, h2, d2, c2⟩
    · exact unchain_end h1 d1 c1 q
    · exact unchain_link h1 d1 c1 (fun z => hn1 o v h1 d1 (by rw [c1, z])) nx h2 d2 c2 q
  first
  | (show wpAny _ _ (if (Value.ref x != Value.ref a) = true then _ else _) _ _ _
     rw [if_pos hb]
     first
     | exact wpAny_bind (un (wpAny_bind (HotX.chained ha da hi (wpAny_throw hE))))
     | exact wpAny_bind (wpAny_bind (un (HotX.chained ha da hi (wpAny_throw hE)))))
  | (refine wpAny_bind ?_
     show wpAny _ _ (if (Value.ref x != Value.ref a) = true then _ else _) _ _ _
     rw [if_pos hb]
     exact wpAny_bind (un (HotX.chained ha da hi (wpAny_throw hE))))
/-- raise X(..): the new error is made, then raised over the one that is handled -/
theorem raise_madeK {env : PySem.Env} {m : Sem Value} {Q : Flow → Shared → Prop} {x : Addr}
    (h : wpAny (model prog w) A m (fun v s1 => ∃ a oe vs cls, v = .ref a ∧ s1.heap.get? a = some oe ∧ oe.cls = cls ∧ oe.data = .fields vs ∧ vs[1]? = some .none ∧ 2 < vs.size ∧ x ≠ a ∧ HotK A x s1.heap ∧ (∀ o v, s1.heap.get? x = some o → o.data = .fields v → v[2]? ≠ some (.ref a)) ∧
      PySem.W.Looks (model prog w) s1.heap (isSubtype cls (.type "BaseException")) true ∧ PySem.W.Looks (model prog w) s1.heap (typeOf cls) (.type "type") ∧ E (.ref a) { s1 with heap := s1.heap.update a (Obj.mapFields (·.setIfInBounds 2 (.ref x))) }) E s) :
    wpAny (model prog w) A (raiseStmt env (some m) none) Q E s := by
  unfold raiseStmt
  refine wpAny_bind (wpAny_mono h (fun v s1 q => ?_) fun _ _ z => z)
  obtain ⟨a, oe, vs, cls, rfl, ha, rfl, hd, h1, hi, hne, hot, hn1, L1, L3, hE⟩ := q
  have LT : PySem.W.Looks (model prog w) s1.heap (typeOf (.ref a)) oe.cls := fun _ _ _ _ k q => wpAny_typeOf_ref (k _ _ ha) q
  have LI : PySem.W.Looks (model prog w) s1.heap (isInstance (.ref a) (.type "BaseException")) true := LT.andThen L1
  have noType : ∀ {P : Bool → Shared → Prop}, P false s1 → wpAny (model prog w) A (isType (.ref a)) P E s1 := fun {P} q => by
    simp only [isType, loadHead]
    exact wpAny_bind (wpAny_loadPart ha (by rw [hd]; exact wpAny_pure q))
  refine wpAny_bind (wpAny_pure (wpAny_bind (wpAny_holding ?_)))
  unfold excFromValue isExcClass
  refine wpAny_bind (wpAny_bind (noType ?_))
  simp only [Bool.false_eq_true, if_false]
  refine wpAny_pure ?_
  simp only [Bool.false_eq_true, if_false]
  refine wpAny_bind (LI.here ?_)
  simp only [if_true]
  refine wpAny_pure (wpAny_bind (noType ?_))
  simp only [Bool.false_eq_true, if_false]
  unfold raisedInstance
  refine wpAny_bind (wpAny_bind (LT.here (wpAny_bind (L3.here ?_))))
  rw [if_pos (beq_self_eq_true _)]
  refine wpAny_pure ?_
  unfold setFlight
  refine wpAny_bind (wpAny_bind (wpAny_field ha hd h1 ?_))
  rw [if_neg (by decide)]
  exact wpAny_pure (raiseNew_hotK hot hne hn1 ha hd hi hE)
end
end DL
set_option Elab.async false
set_option linter.all false
set_option maxRecDepth 100000
set_option maxHeartbeats 4000000
namespace DL
open PySem PySem.Spec PyProof PyProof.Rows L2
section
variable {X : Cx} {W Wo : WX} {a : Addr} {oe : Obj} {cx : Value} {pins : List (Addr × Obj)} {e : Expr} {pos : Pos} {t : L2.St → Hp → XK → Prop}
abbrev SX (X : Cx) (a : Addr) (oe : Obj) (pins : List (Addr × Obj)) : Cx := L2H.suiteX X a ((a, oe) :: (X.pn ++ pins))
/-- how the suite's own error gets out -/
def Out (X : Cx) (a : Addr) (oe : Obj) (pins : List (Addr × Obj)) (Wo : WX) : Prop := ∀ (u : Value) (s' : Shared), L2.XE (SX X a oe pins) Wo u s' → CtxIs u (.ref a) s'.heap → X.xe u s'
theorem out_of (way : Way X a oe pins) (tk : L2.Takes X W) : Out X a oe pins W := fun u s' ⟨b, B, sI, pn, σ, H, cls, d, e, I, nb, up, sky, na, os, ag, w⟩ _ =>
  tk u s' ⟨b, B, sI, pins, σ, H, cls, d, e, (way I).1, nb, up, sky, na, os, ag, w⟩
theorem out_ofK (way : Way X a oe pins) (tk : Takesk X W) (hd : ∃ vs : Array Value, oe.data = .fields vs ∧ vs[2]? = some .none) : Out X a oe pins fun cls d σ H => H a = none → W cls d σ (upd H a (exO oe)) := fun u s' ⟨b, B, sI, pn, σ, H, cls, d, e, I, nb, up, sky, na, os, ag, w⟩ ck => by
  obtain ⟨vs, d1, d2⟩ := hd
  have hb : b ≠ a := fun z => by
    obtain ⟨e1, _, e3, _⟩ := I.pin (a, oe) (List.mem_append_left _ (.head _))
    have e1 : sI.heap.get? a = some oe := e1
    have nf : a ∉ frs X.stack := fun m => by
      obtain ⟨_, o', e', q⟩ := I.stack.mem m
      obtain rfl : oe = o' := Option.some.inj (e1.symm.trans e')
      exact q _ d1
    have g := nb a oe e1 nf
    have n : B.get? b = none := by
      rcases sky with q | q | q
      · exact q.2.1
      · exact q.2.1
      · exact q.2.1
    rw [z, g] at n
    cases n
  exact tk u s' (.ref a) ⟨b, B, sI, pins, σ, upd H a (exO oe), cls, d, e, (way I).2, nb, up, sky, by rw [upd_ne hb]; exact na, os, ag, w (I.pin (a, oe) (List.mem_append_left _ (.head _))).2.1, .inr ⟨a, oe, vs, rfl, upd_same, d1, d2⟩⟩ ck
theorem ps_raiseK (out : Out X a oe pins Wo) (hc : CtxC cx oe) (hf : ∃ vs, oe.data = .fields vs) (he : L2N.PMk (SX X a oe pins) e t) : PS (SX X a oe pins) (.Raise (some e) none pos) (fun _ σ H => t σ H fun cls d H' => CtxOk cx H' ∧ Wo cls d σ H') := by
  refine ⟨fun pn s σ H D I h => ?_⟩
  obtain ⟨vs0, d0⟩ := hf
  show wpAny _ _ (do standAt pos; raiseStmt X.env (some (do let v ← eval e X.env; standAt pos; pure v)) none) _ _ _
  refine wpAny_bind (wpAny_standAt (raise_madeK (x := a) (wpAny_bind (wpAny_mono (he pn s σ H _ I h) (fun u s1 hu => wpAny_bind (wpAny_standAt (wpAny_pure ?_))) fun _ _ z => z))))
  obtain ⟨b, ob, vs, sI, H', cls, d, rfl, J, k, hne, hb, hz, hd, h1, na, os, ag, r, co, q⟩ := hu
  obtain ⟨r1, r2⟩ := r (model X.prog X.w) s1.heap (J.kIn.keeps k)
  obtain ⟨ea, fa, _⟩ := J.pin (a, oe) (List.mem_append_left _ (.head _))
  have ea : sI.heap.get? a = some oe := ea
  have fa : H' a = none := fa
  have nab : a ≠ b := fun z => by
    rw [z, hne] at ea
    cases ea
  have hi : 2 < vs.size := (Array.getElem?_eq_some_iff.mp (hz.2.2 vs hd)).1
  have link : cx = .none ∨ ∃ (a1 : Addr) (o1 : Obj) (v1 : Array Value), cx = .ref a1 ∧ a1 ≠ a ∧ s1.heap.get? a1 = some o1 ∧ o1.data = .fields v1 ∧ v1[2]? = some .none ∧ a1 ≠ b := by
    rcases co with z | ⟨a1, o1, v1, z, e1, e2, e3⟩
    · exact .inl z
    · refine .inr ⟨a1, o1, v1, z, fun y => ?_, k _ _ (J.hok a1 _ e1).1, e2, e3, fun y => ?_⟩
      · rw [y, fa] at e1
        cases e1
      · rw [y, na] at e1
        cases e1
  have hot : HotK (SX X a oe pins).A a s1.heap := ⟨rfl, oe, vs0, cx, k _ _ ea, d0, hc vs0 d0, link.imp id fun ⟨a1, o1, v1, q1, q2, q3, q4, q5, _⟩ => ⟨a1, o1, v1, q1, q2, q3, q4, q5⟩⟩
  have hn1 : ∀ o v, s1.heap.get? a = some o → o.data = .fields v → v[2]? ≠ some (.ref b) := fun o v e1 e2 e3 => by
    rw [k _ _ ea] at e1
    cases e1
    rw [hc v e2] at e3
    cases e3
    rcases link with z | ⟨a1, _, _, z, _, _, _, _, n⟩
    · cases z
    · cases z
      exact n rfl
  have g := Heap.get?_update_self (Obj.mapFields (·.setIfInBounds 2 (.ref a))) hb (Obj.isFreed_of_fields (Obj.data_mapFields hd _))
  refine ⟨b, ob, vs, cls, rfl, hb, hz.1, hd, h1, hi, nab, hot, hn1, r1, r2, out _ _ (L2.XE.new J (fun y u z => ?_) hne g ⟨(Obj.cls_mapFields ..).trans hz.1, (HandSPX.dict_mapFields ..).trans hz.2.1⟩ (Obj.data_mapFields hd _) ?_ na os ag q) ⟨b, _, _, rfl, g, Obj.data_mapFields hd _, by simp [hi]⟩⟩
  · show (s1.heap.update b (Obj.mapFields (·.setIfInBounds 2 (.ref a)))).get? y = some u
    rw [Heap.get?_update_other _ _ fun w => by rw [← w, hne] at z; cases z]
    exact k y u z
  · rw [Array.getElem?_setIfInBounds_ne (by decide)]
    exact h1
end
end DL
set_option Elab.async false
set_option linter.all false
set_option maxRecDepth 100000
set_option maxHeartbeats 4000000
namespace DL
open PySem PySem.Spec PyProof PyProof.Rows L2
section
variable {X : Cx} {M : Mp} {W : WX}
theorem pmk_argN {x : Str} {C : Addr} {bmB : List Value} {B newId initId : String} {a : Expr} {ta : TA} {p pos : Pos} (F : ExcBaseFacts B newId initId bmB) (q : PySem.W.excIn X.K C bmB newId = true) (gC : X.mg x = some (.ref C)) (kC : PySem.W.keepIn X.K (.ref C) = true) (r : Raises X (.ref C)) (ha : PA X [a] ta) (hg : Gl X x)
    (hdb : (x == ("__debug__" : Str)) = false := by decide) (he : starEach [a] X.env = (false, eval a X.env) :: starEach [] X.env := by rfl) (hpl : (backTo pos (starEach [] X.env)).any (·.1) = false := by rfl) :
    L2N.PMk X (.Call (.Name x p) [a] [] pos) (fun σ H Q => ta σ H fun vs H1 => vs.length = 1 ∧ Q (.ref C) none H1) := by
  intro pins s σ H Q I h
  refine wpAny_Call_Name_kw (ld_glob I hg gC ?_ hdb)
  refine PySem.W.callWith_K (h₀ := X.base) I.ok.mod.kin kC (thn (ha.run pos pins s σ H _ I h) fun us s1 hh => ?_) he hpl
  obtain ⟨vs, H1, I1, r1, ev, q1⟩ := hh
  refine ⟨I1.kIn, ?_⟩
  cases r1 with
  | nil => cases ev
  | cons ru rn =>
    rename_i v u vs' us'
    cases rn with
    | cons _ _ => simp at ev
    | nil =>
    show wpAny _ _ (call (.ref C) [u]) _ _ _
    obtain ⟨bm, N, nm, qn, bs, hdct, sn, sub, ab, col, dd, k0, k1, k2, k3, k5, mN, hC, hN, hni, T⟩ := exc_obj I1.kIn q
    refine wpAny_call_exc_subT F T hC hN hni (fun h' e hm => ?_) (by show 1 ≤ sizeLine; rw [sizeLine_eq]; omega)
    exact L2N.mk_of I1 hm r q1 (I1.hok.gone hm.new)
end
end DL
set_option Elab.async false
set_option linter.all false
set_option maxRecDepth 100000
set_option maxHeartbeats 4000000
namespace DL
open PySem PySem.Spec PyProof PyProof.Rows L2
theorem Sim.noX {K : PySem.W.Frag} {M : Mp} {G H : Hp} {hs : List Addr} {s : DS} {a : Addr} {o : Obj} (J : Sim K M G hs s H) (e : H a = some (exO o)) : a ∉ hs := fun m => by
  obtain ⟨_, d, _, _, q⟩ := J.hanAt m
  unfold exO at e
  cases d <;> first | exact q.elim | (obtain ⟨_, z, _⟩ := q; rw [e] at z; cases z) | (obtain ⟨_, _, z, _⟩ := q; rw [e] at z; cases z)
theorem CtxOk.stp {K : PySem.W.Frag} {M : Mp} {G H G' H' : Hp} {hs hs' : List Addr} {s : DS} {cx : Value} (k : CtxOk cx H) (J : Sim K M G hs s H) (S : Stp M G hs H G' hs' H') : CtxOk cx H' := by
  rcases k with z | ⟨a, o, vs, z, e, d1, d2⟩
  · exact .inl z
  · exact .inr ⟨a, o, vs, z, S.kp a _ e (J.noX e) (fun ps w => by unfold exO at w; cases w), d1, d2⟩
theorem CtxOk.ext {H H' : Hp} {cx : Value} (k : CtxOk cx H) (e : ∀ a o, H a = some o → H' a = some o) : CtxOk cx H' := by
  rcases k with z | ⟨a, o, vs, z, q, d1, d2⟩
  · exact .inl z
  · exact .inr ⟨a, o, vs, z, e _ _ q, d1, d2⟩
theorem ExR.ext {K : PySem.W.Frag} {M : Mp} {G H H' : Hp} {hs : List Addr} {c : Nat} {p : List D} {cls : Value} {dx : Option Addr} (x : ExR K M G hs H c p cls dx) (e : ∀ a o, H a = some o → H' a = some o) : ExR K M G hs H' c p cls dx := by
  obtain ⟨h1, h2⟩ := x
  refine ⟨h1, ?_⟩
  rcases h2 with h | ⟨d, v, dd, q1, q2, q3, q4⟩
  · exact .inl h
  · exact .inr ⟨d, v, dd, q1, q2, q3, e _ _ q4⟩
abbrev WTr : WX := fun _ _ _ _ => True
/-- a clause's suite that raises -/
def RaiseIn (M : Mp) (X : Cx) (okc : Value → Prop) (st : Stmt) (f : Env → DS → F) : Prop := ∀ (a : Addr) (oe : Obj) (cx : Value) (pins : List (Addr × Obj)) (W Wo : WX), CtxC cx oe → (∃ vs, oe.data = .fields vs) → okc cx → Out X a oe pins Wo →
  (∀ cls d σ H, W cls d σ H → (H a = none → W cls d σ (upd H a (exO oe))) → Wo cls d σ H) →
  ∃ t, PS (SX X a oe pins) st t ∧ ∀ (A : Anc) (σ : L2.St) (H G : Hp) (hs : List Addr) (own : Nat → Addr) (η : Env) (s : DS) (E : Ends), Sm X.K M A σ H G hs own η s → CtxOk cx H → FPost X.K M A W E (f η s) → t E σ H
/-- what is raised is taken, the caught error held exactly or not -/
theorem FPost.two {K : PySem.W.Frag} {M : Mp} {A : Anc} {σ : L2.St} {H1 G1 : Hp} {hs1 : List Addr} {own : Nat → Addr} {η1 : Env} {s1 : DS} {E : Ends} {W Wo : WX} {a : Addr} {oe : Obj} {c : Nat} {p : List D} {cls : Value} {dx : Option Addr}
    (hW : ∀ cls d σ H, W cls d σ H → (H a = none → W cls d σ (upd H a (exO oe))) → Wo cls d σ H) (I : Sm K M A σ H1 G1 hs1 own η1 s1) (x : ExR K M G1 hs1 H1 c p cls dx) (h : FPost K M A W E (.ex c p η1 s1)) : Wo cls dx σ H1 := by
  refine hW _ _ _ _ (h σ H1 G1 hs1 own cls dx I x) fun na => ?_
  have k : ∀ b o, H1 b = some o → upd H1 a (exO oe) b = some o := fun b o e => by
    rw [upd_ne (ne_of_none e na)]
    exact e
  exact h σ _ G1 hs1 own cls dx (I.step (Stp.extH k) (I.sim.extH k)) (x.ext k)
section
variable {M : Mp} {X : Cx} {W : WX} {x : Str} {c : Nat} {p pos pos2 : Pos}
theorem ri_raise {a : Expr} {g : Env → DS → R (List D)} (E : ExcOk X.K X.mg M c x) (ha : ∀ a' oe pins, DA M (SX X a' oe pins) WTr [a] g) (hg : Gl X x := by rfl)
    (hdb : (x == ("__debug__" : Str)) = false := by decide) (he : starEach [a] X.env = (false, eval a X.env) :: starEach [] X.env := by rfl) (hpl : (backTo pos (starEach [] X.env)).any (·.1) = false := by rfl)
    (h1 : ∀ η s ds s', g η s = .ok ds s' → ds.length = 1 := by exact one_len) :
    RaiseIn M X (fun _ => True) (.Raise (some (.Call (.Name x p) [a] [] pos)) none pos2) (raiseA c g) := fun a' oe cx pins W Wo hc hf _ out hW => by
  obtain ⟨t, pa, h⟩ := (ha a' oe pins).ex
  refine ⟨_, ps_raiseK out hc hf (pmk_argN (X := SX X a' oe pins) PySem.F.excBase_ValueError E.x E.g E.k (raises_own E.b E.t) pa hg hdb he hpl), fun A σ H G hs own η s En I co hp => ?_⟩
  refine h A σ H G hs own η s _ I ?_
  unfold raiseA at hp
  cases q : g η s with
  | ok ds s1 =>
    rw [q] at hp
    intro G1 hs1 H1 S1 J1 vs hvs
    exact ⟨by rw [← hvs.length]; exact h1 η s ds s1 q, co.stp I.sim S1, FPost.two hW (I.step S1 J1) ⟨rfl, .inl ⟨rfl, rfl⟩⟩ hp⟩
  | ex c p s1 => exact fun _ _ _ _ _ _ _ _ => trivial
  | bad => rw [q] at hp; exact hp
theorem ri_raiseR {a : Expr} {g : Env → DS → R (List D)} (E : ExcR X.prog X.w X.K X.mg X.base M c x) (hr : ∀ a' oe pins, L2H.RoomH 2 (SX X a' oe pins).A) (ha : ∀ a' oe pins, DA M (SX X a' oe pins) WTr [a] g) (hg : Gl X x := by rfl)
    (hdb : (x == ("__debug__" : Str)) = false := by decide) (he : starEach [a] X.env = (false, eval a X.env) :: starEach [] X.env := by rfl) (hpl : (backTo pos (starEach [] X.env)).any (·.1) = false := by rfl)
    (h1 : ∀ η s ds s', g η s = .ok ds s' → ds.length = 1 := by exact one_len) :
    RaiseIn M X (fun cx => cx = .none) (.Raise (some (.Call (.Name x p) [a] [] pos)) none pos2) (raiseR c g) := fun a' oe cx pins W Wo hc hf hn out hW => by
  subst hn
  obtain ⟨t, pa, h⟩ := (ha a' oe pins).ex
  obtain ⟨fI, fd, T, hb, _, F1⟩ := E.t
  obtain ⟨vs0, d0⟩ := hf
  have hot : L2H.HotC (SX X a' oe pins) := ⟨(a', oe), ⟨rfl, vs0, d0, hc vs0 d0⟩, List.mem_cons_self⟩
  refine ⟨_, ps_raiseK out hc ⟨vs0, d0⟩ (L2H.pmk5_oexH (X := SX X a' oe pins) T.oex T.ini T.tI (F1 CX0) (hr a' oe pins) hot hb pass0 hg E.g pa hdb he hpl).pmk, fun A σ H G hs own η s En I co hp => ?_⟩
  refine h A σ H G hs own η s _ I ?_
  unfold raiseR at hp
  cases q : g η s with
  | ok ds s1 =>
    rw [q] at hp
    intro G1 hs1 H1 S1 J1 vs hvs
    have l1 := h1 η s ds s1 q
    obtain ⟨d, rfl⟩ : ∃ d, ds = [d] := List.length_eq_one_iff.mp l1
    obtain ⟨v, vr, rfl, rv, rn⟩ := repL_cons.mp hvs
    cases repL_nil.mp rn
    refine ⟨by show 1 ≤ 1000; decide, fun b na => ⟨b, v, rfl, upd_same, fun dx hdx hne => ?_⟩⟩
    have hdx1 : H1 dx = none := by rwa [upd_ne hne] at hdx
    refine ⟨rfl, dx, _, upd_same, by rw [upd_ne hne, upd_same], hdx1, ?_⟩
    rw [upd_row na hne]
    obtain ⟨S2, J2⟩ := J1.laid (o := .xd [("row", v)]) hdx1
    exact ⟨.inl rfl, FPost.two hW ((I.step S1 J1).step S2 J2) ⟨rfl, .inr ⟨d, v, dx, rfl, rv.mono S2.gg S2.hp, rfl, by rw [upd_same, E.r]⟩⟩ hp⟩
  | ex c p s1 => exact fun _ _ _ _ _ _ _ _ => trivial
  | bad => rw [q] at hp; exact hp
end
section
variable {M : Mp} {X : Cx} {W : WX} {x : Str} {c : Nat} {hv : Addr} {st : Stmt} {body : List Stmt} {np pos pos' : Pos} {fb fs : Env → DS → F}
theorem ds_tryP {ok : Value → Hp → Prop} {okc : Value → Prop} (ok1 : ∀ c H, ok c H → okc c ∧ CtxOk c H) (hex : X.ex = []) (hm : X.mg x = some (.ref hv)) (hx : PySem.W.exmOne X.K (.ref (M.exc c)) (.ref hv) = some true)
    (hb : ∀ (W : WX) (pn : List (Addr × Obj)) (xe : Value → Shared → Prop), TakesP ok (X.tr pn xe) W → PassesOwn (model X.prog X.w) X.A X.env xe → DSs M (X.tr pn xe) W body fb)
    (hsu : RaiseIn M X okc st fs)
    (hout : ∀ (a : Addr) (oe : Obj) (cx : Value) (pins : List (Addr × Obj)), CtxC cx oe → (∃ vs, oe.data = .fields vs) → okc cx → Way X a oe pins → ∃ Wo, Out X a oe pins Wo ∧ ∀ cls d σ H, W cls d σ H → (H a = none → W cls d σ (upd H a (exO oe))) → Wo cls d σ H)
    (hpa : ∀ hd : Option Value, PassesOwnAt (model X.prog X.w) (X.A.mark hd) X.A X.env X.xe) (hg : Gl X x := by rfl) (hd : (x == ("__debug__" : Str)) = false := by decide)
    (hs : X.stack = X.env :: X.outer := by rfl) (hf : X.env.frame = some X.env.locals := by rfl) : DSt M X W (.Try body [.ExceptHandler (some (.Name x np)) none [st] pos'] [] [] pos) (tryX c fb fs) := by
  have key : ∀ (a : Addr) (oe : Obj) (cx : Value) (pins : List (Addr × Obj)), CtxC cx oe → (∃ vs, oe.data = .fields vs) → okc cx → Way X a oe pins →
      ∃ t, PS (SX X a oe pins) st t ∧ ∀ (A : Anc) (σ : L2.St) (H G : Hp) (hs : List Addr) (own : Nat → Addr) (η : Env) (s : DS) (E : Ends), Sm X.K M A σ H G hs own η s → CtxOk cx H → FPost X.K M A W E (fs η s) → t E σ H := fun a oe cx pins h1 h2 h3 h4 => by
    obtain ⟨Wo, o1, o2⟩ := hout a oe cx pins h1 h2 h3 @h4
    exact hsu a oe cx pins W Wo h1 h2 h3 o1 o2
  refine ⟨_, ps_tryP (ok := ok) (tb := fun W' D σ H => ∀ pn xe tk' ps', Classical.choose (hb W' pn xe tk' ps').ex D σ H) (ts := fun a oe _ _ cx D σ H => okc cx ∧ ∀ pins h1 h2 h3 h4, Classical.choose (key a oe cx pins h1 h2 h3 @h4) D σ H) hs hf hex ⟨hg, hd, .inl hm⟩ hpa
    (fun W' pn xe tk' ps' => ⟨fun pins s σ H D I z => (Classical.choose_spec (hb W' pn xe tk' ps').ex).1.run pins s σ H D I (z pn xe tk' ps')⟩)
    (fun a oe cls d cx pins h1 h2 h4 => ⟨fun pn s σ H D I z => (pss_one (Classical.choose_spec (key a oe cx pins h1 h2 z.1 @h4)).1).run pn s σ H D I (z.2 pins h1 h2 z.1 @h4)⟩), fun A σ H G hs2 own η s E I f => ?_⟩
  intro pn xe tk' ps'
  refine (Classical.choose_spec (hb _ pn xe tk' ps').ex).2 A σ H G hs2 own η s E I ?_
  unfold tryX at f
  cases q : fb η s with
  | ex c' p η1 s1 =>
    rw [q] at f
    dsimp only at f
    intro σ' H' G' hs' own' cls dx I' x'
    split at f
    · rename_i hc
      subst hc
      obtain ⟨rfl, _⟩ := id x'
      refine ⟨hx, fun a oe cx _ co => ⟨(ok1 _ _ co).1, fun pins h1 h2 h3 h4 => ?_⟩⟩
      exact (Classical.choose_spec (key a oe cx pins h1 h2 h3 @h4)).2 A σ' H' G' hs' own' η1 s1 E I' (ok1 _ _ co).2 f
    · exact f.elim
  | nx _ _ => rw [q] at f; exact f
  | rt _ _ => rw [q] at f; exact f
  | bk _ _ => rw [q] at f; exact f
  | ct _ _ => rw [q] at f; exact f
  | bad => rw [q] at f; exact f
/-- a def that lets out any context; the body's errors may have one link -/
theorem ds_tryK (tk : Takes X W) (hex : X.ex = []) (hm : X.mg x = some (.ref hv)) (hx : PySem.W.exmOne X.K (.ref (M.exc c)) (.ref hv) = some true)
    (hb : ∀ (W : WX) (pn : List (Addr × Obj)) (xe : Value → Shared → Prop), Takesk (X.tr pn xe) W → PassesOwn (model X.prog X.w) X.A X.env xe → DSs M (X.tr pn xe) W body fb)
    (hsu : RaiseIn M X (fun _ => True) st fs)
    (hpa : ∀ hd : Option Value, PassesOwnAt (model X.prog X.w) (X.A.mark hd) X.A X.env X.xe) (hg : Gl X x := by rfl) (hd : (x == ("__debug__" : Str)) = false := by decide)
    (hs : X.stack = X.env :: X.outer := by rfl) (hf : X.env.frame = some X.env.locals := by rfl) : DSt M X W (.Try body [.ExceptHandler (some (.Name x np)) none [st] pos'] [] [] pos) (tryX c fb fs) :=
  ds_tryP (ok := CtxOk) (okc := fun _ => True) (fun _ _ h => ⟨trivial, h⟩) hex hm hx hb hsu (fun a oe cx pins _ _ _ way => ⟨W, out_of @way tk, fun _ _ _ _ h _ => h⟩) hpa hg hd hs hf
/-- a def that lets out one link of context; the body's errors have none -/
theorem ds_tryQ (tk : Takesk X W) (hex : X.ex = []) (hm : X.mg x = some (.ref hv)) (hx : PySem.W.exmOne X.K (.ref (M.exc c)) (.ref hv) = some true)
    (hb : ∀ (W : WX) (pn : List (Addr × Obj)) (xe : Value → Shared → Prop), L2N.Takes (X.tr pn xe) W → PassesOwn (model X.prog X.w) X.A X.env xe → DSs M (X.tr pn xe) W body fb)
    (hsu : RaiseIn M X (fun cx => cx = .none) st fs)
    (hpa : ∀ hd : Option Value, PassesOwnAt (model X.prog X.w) (X.A.mark hd) X.A X.env X.xe) (hg : Gl X x := by rfl) (hd : (x == ("__debug__" : Str)) = false := by decide)
    (hs : X.stack = X.env :: X.outer := by rfl) (hf : X.env.frame = some X.env.locals := by rfl) : DSt M X W (.Try body [.ExceptHandler (some (.Name x np)) none [st] pos'] [] [] pos) (tryX c fb fs) :=
  ds_tryP (ok := fun c _ => c = .none) (okc := fun c => c = .none) (fun _ _ h => ⟨h, .inl h⟩) hex hm hx (fun W pn xe tk' ps' => hb W pn xe (TakesP.n (fun _ => rfl) tk') ps') hsu
    (fun a oe cx pins hc hf hn way => ⟨_, out_ofK @way tk (hf.elim fun vs e => ⟨vs, e, by rw [← hn]; exact hc vs e⟩), fun _ _ _ _ _ h na => h na⟩) hpa hg hd hs hf
end
end DL
set_option Elab.async false
set_option linter.all false
set_option maxRecDepth 100000
set_option maxHeartbeats 4000000
namespace DL
open PySem PySem.Spec PyProof PyProof.Rows L2
end DL
set_option Elab.async false
set_option linter.all false
set_option maxRecDepth 100000
set_option maxHeartbeats 4000000
namespace DL
open PySem PySem.Spec PyProof PyProof.Rows L2
theorem passAtK {X : Cx} {W : WX} (tk : Takesk X W) (σ : L2.St) : PassesAt (CXk X.prog X.w) X σ (WE W σ) := fun _ _ _ e s' I ⟨c, h1, h2⟩ => tk e s' c (L2.XE.of_call I (fun _ _ _ h => h) h2) h1
/-- such a promise is a promise -/
theorem FnOk.downK {P : Program} {w : World} {K : PySem.W.Frag} {mg : Str → Option Value} {base : Heap} {k : Nat} {f : Addr} {fd : FuncData} {ps : List Str} {sp : Sp} (F : FnOk P w K mg base (CXk P w) k f fd ps sp) : FnOk P w K mg base (L2.CX P w) k f fd ps sp :=
  ⟨F.len, fun A outer s H args us vs Q E hr he hb hv hs => codeAny_mono (F.run A outer s H args us vs Q E hr he hb hv hs) fun r s' h => by
    cases r with
    | ok fl => cases fl <;> exact h
    | error e =>
      obtain ⟨c, _, a, B, H', cls, d, e1, fl, r1, r2, r3, r4, r5, r6⟩ := h
      exact ⟨a, B, H', cls, d, e1, fl, r1, r2, r3, r4, r5, r6.1⟩⟩
section
variable {M : Mp} {K : PySem.W.Frag} {P : Program} {w : World} {mg : Str → Option Value} {base : Heap}
theorem Fun.okCQ {x qual : Str} {st : Stmt} {p : He.Defn} {fd : FuncData} {N ps : List Str} {k : Nat} {sp : Sp} (F : Fun K x qual st (He.fAd K p) fd) (S : FnScope N ps (defScope st)) (len : ∀ vs H Q E, sp vs H Q E → vs.length = ps.length)
    (hbody : ∀ (cdv : Value), cdv = .ref (He.cT K p).1 → ∀ (A : Around) (outer : List PySem.Env) (s : Shared) (H : Hp) (vs : List V) (Q : VK) (E : XK), Room k (A.deeper (envOfC qual (defScope st) s.heap.objs.size (He.fAd K p) cdv)) → sp vs H Q E →
      ∃ t, PSs (cxOf (CXk P w) P w K mg base N qual (defScope st) (He.fAd K p) cdv A outer s H E) (defBody st) t ∧ t { nx := fun _ H' => Q .non H', rt := Q } (L2.start N vs) H) : FnOk P w K mg base (CXk P w) (k + 1) (He.fAd K p) fd ps sp := by
  obtain ⟨oc, od, kV, doc, pm, an, cdv, ct, osl, rfl, lk, hcd⟩ := F.ex
  obtain ⟨c, hc⟩ := He.codeIn_ref hcd
  have e : cdv = .ref (He.cT K p).1 := by
    show cdv = .ref (He.codeOf K p)
    rw [He.codeOf_eq (c := c) lk hc, hc]
  exact fn_of lk hcd S len fun A outer s H vs Q E hr hsp => hbody cdv e A outer s H vs Q E hr hsp
abbrev BodyQ (M : Mp) (P : Program) (w : World) (K : PySem.W.Frag) (mg : Str → Option Value) (base : Heap) (k : Nat) (N : List Str) (qual : Str) (st : Stmt) (f : Addr) (cdv : Value) (body : Env → DS → F) : Prop := ∀ (A : Around) (outer : List PySem.Env) (s : Shared) (H : Hp) (E : XK),
  Room k (A.deeper (envOfC qual (defScope st) s.heap.objs.size f cdv)) → DSs M (cxOf (CXk P w) P w K mg base N qual (defScope st) f cdv A outer s H E) (WofE E) (defBody st) body
theorem fn_okQ {x qual : Str} {st : Stmt} {p : He.Defn} {fd : FuncData} {N ps : List Str} {k : Nat} {body : Env → DS → F} (F : Fun K x qual st (He.fAd K p) fd) (S : FnScope N ps (defScope st)) (hb : ∀ cdv : Value, cdv = .ref (He.cT K p).1 → BodyQ M P w K mg base k N qual st (He.fAd K p) cdv body) : FnOk P w K mg base (CXk P w) (k + 1) (He.fAd K p) fd ps (SpD K M ps.length (fnD N.length body)) := by
  refine Fun.okCQ F S (fun vs H Q E ⟨G, hs, s, ds, _, r, hl, _⟩ => by rw [← r.length, hl]) fun cdv hcd A outer s0 H vs Q E hr ⟨G, hs, s, ds, J, r, hl, hp⟩ => ?_
  obtain ⟨t, pt, h⟩ := (hb cdv hcd A outer s0 H E hr).ex
  refine ⟨t, pt, h ⟨G, hs, H, none⟩ (L2.start N vs) H G hs (fun _ => 0) (padE N.length (ds.map .v)) s _ ⟨J, Stp.refl _ _ _ _, fun i d e => ?_, fun i d e => ?_, fun i j d d' e => ?_, ?_, fun _ _ z => by cases z⟩ (fnD_post (A := ⟨G, hs, H, none⟩) hp)⟩
  · have e1 := pad_get e (fun z => by cases z)
    rw [List.getElem?_map, Option.map_eq_some_iff] at e1
    obtain ⟨d', e2, e3⟩ := e1
    cases e3
    obtain ⟨v, h1, h2⟩ := r.get e2
    exact ⟨v, start_get h1, h2⟩
  · have e1 := pad_get e (fun z => by cases z)
    rw [List.getElem?_map, Option.map_eq_some_iff] at e1
    obtain ⟨d', e2, e3⟩ := e1
    cases e3
  · have e1 := pad_get e (fun z => by cases z)
    rw [List.getElem?_map, Option.map_eq_some_iff] at e1
    obtain ⟨d', e2, e3⟩ := e1
    cases e3
  · rw [start_len, ← r.length]
    unfold padE
    rw [List.length_append, List.length_replicate, List.length_map]
theorem in_okHQ {x qual : Str} {st : Stmt} {p : He.Defn} {fd : FuncData} {N ps : List Str} {k c : Nat} {body : Env → DS → F} (F : Fun K x qual st (He.fAd K p) fd) (S : FnScope N ps (defScope st)) (hb : ∀ cdv : Value, cdv = .ref (He.cT K p).1 → BodyQ M P w K mg base k N qual st (He.fAd K p) cdv body) : FnOk P w K mg base (CXk P w) (k + 1) (He.fAd K p) fd ps (SpIH K M c ps.length (inHD c N.length body)) := by
  refine Fun.okCQ F S (fun vs H Q E ⟨G, hs, s, ds, x, dx, H0, vs', e, _, _, _, _, _, r, hl, _⟩ => by rw [e, List.length_cons, ← r.length, hl]) fun cdv hcd A outer s0 H vs Q E hr ⟨G, hs, s, ds, x, dx, H0, vs', e, h1, h2, h3, h4, J, r, hl, hp⟩ => ?_
  subst e h4
  obtain ⟨t, pt, h⟩ := (hb cdv hcd A outer s0 _ E hr).ex
  have ext : ∀ a o, H0 a = some o → upd (upd H0 dx (.own x)) x (.ins (M.cls c) dx []) a = some o := fun a o e => by
    rw [upd_ne (ne_of_none e h1), upd_ne (ne_of_none e h2)]
    exact e
  obtain ⟨f1, f2, f3⟩ := J.free h1
  have fr : Fr1 K M G hs (upd (upd H0 dx (.own x)) x (.ins (M.cls c) dx [])) (.obj c []) x := ⟨⟨dx, [], upd_same, by simp, repL_nil.mpr rfl⟩, f1, f2, f3⟩
  have J2 := (J.extH ext).newHan fr
  have S2 : Stp M G hs H0 G (hs ++ [x]) (upd (upd H0 dx (.own x)) x (.ins (M.cls c) dx [])) := (Stp.extH ext).newHan (nt_none h1)
  have hx : (hs ++ [x])[s.length]? = some x := by rw [← J.len]; simp
  refine ⟨t, pt, h ⟨G, hs ++ [x], upd (upd H0 dx (.own x)) x (.ins (M.cls c) dx []), none⟩ (L2.start N (.ref x :: vs')) _ G (hs ++ [x]) (fun _ => x) (padE N.length (.v (.han s.length) :: ds.map .v)) (s ++ [D.obj c []]) _ ⟨J2, Stp.refl _ _ _ _, fun i d e => ?_, fun i d e => ?_, fun i j d d' e e' _ => ?_, ?_, fun y d z _ => by cases z⟩ ?_⟩
  · have e1 := pad_get e (fun z => by cases z)
    cases i with
    | zero =>
      simp at e1
      subst e1
      exact ⟨.ref x, start_get rfl, rep_han.mpr ⟨x, rfl, hx⟩⟩
    | succ i =>
      rw [List.getElem?_cons_succ, List.getElem?_map, Option.map_eq_some_iff] at e1
      obtain ⟨d', e2, e3⟩ := e1
      cases e3
      obtain ⟨v, h1, h2⟩ := r.get e2
      exact ⟨v, start_get (by rw [List.getElem?_cons_succ]; exact h1), h2.mono S2.gg S2.hp⟩
  · have e1 := pad_get e (fun z => by cases z)
    cases i with
    | zero => simp at e1
    | succ i =>
      rw [List.getElem?_cons_succ, List.getElem?_map, Option.map_eq_some_iff] at e1
      obtain ⟨d', e2, e3⟩ := e1
      cases e3
  · have e1 := pad_get e (fun z => by cases z)
    cases i with
    | zero => simp at e1
    | succ i =>
      rw [List.getElem?_cons_succ, List.getElem?_map, Option.map_eq_some_iff] at e1
      obtain ⟨d', e2, e3⟩ := e1
      cases e3
  · rw [start_len]
    unfold padE
    rw [List.length_append, List.length_replicate, List.length_cons, List.length_cons, List.length_map, r.length]
  · unfold inHD at hp
    split at hp
    · rename_i η s1 e
      rw [e]
      intro σ H' G' hs' own I
      exact hp G' hs' H' (S2.trans I.stp) I.sim (rep_han.mpr ⟨x, rfl, I.stp.hp _ _ hx⟩)
    · rename_i e
      rw [e]
      exact fun σ H G hs own cls dx I x => hp G hs H cls dx (S2.trans I.stp) I.sim x
    · exact hp.elim
end
section
variable {M : Mp} {X : Cx} {W : WX} {x m : Str} {e o : Expr} {es : List Expr} {p pos apos : Pos} {fa : Env → DS → R (List D)} {fo : Env → DS → R D}
theorem de_methTQ {pl : Sem Bool} {k c : Nat} {f : Addr} {fd : FuncData} {ps : List Str} {n : Nat} {g : List D → DS → R D} (F : FnOk X.prog X.w X.K X.mg X.base (CXk X.prog X.w) k f fd ps (SpD X.K M n g)) (hb : Binds X.K fd ps []) (C : ClsOk X.K M c) (hme : Meth X.K (M.cls c) m f) (hr : Room k X.A) (tk : Takesk X W) (ho : DE M X W o fo) (ha : DA M X W (e :: es) fa)
    (hn : (M.flds c).contains m = false := by rfl) (hst : starEach (e :: es) X.env = (false, eval e X.env) :: starEach es X.env := by rfl) (hpl : (backTo pos (starEach es X.env)).any (·.1) = false := by rfl)
    (ht : eval (.Call (.Attribute o m apos) (e :: es) [] pos) X.env = (do
      let ov ← eval o X.env
      standAt apos.atName
      let (f, first) ← holding [ov] (getMethod ov m pl)
      callWith pos f first (backTo pos (starEach (e :: es) X.env)) (backToKw pos (keywordEach [] X.env))) := by rfl) :
    DE M X W (.Call (.Attribute o m apos) (e :: es) [] pos) (methD c (gateD n g) fo fa) := by
  obtain ⟨t, pt, h⟩ := ho.ex
  obtain ⟨ta, pa, ka⟩ := ha.ex
  refine ⟨_, pe_methT (pl := pl) pt C.cl hme F hr hb (fun σ => passAtK tk σ) pa hst hpl ht, fun A σ H G hs own η s Q I hp => ?_⟩
  refine h A σ H G hs own η s _ I (hp.bind.mono fun d G1 hs1 s1 H1 S1 J1 h1 v hv => ?_)
  split at h1
  · rename_i hc
    obtain ⟨a, dx, fs, rfl, e1, e2⟩ := isC_at J1 hn hv hc
    refine ⟨a, dx, fs, rfl, e1, e2, ?_⟩
    refine ka A σ H1 G1 hs1 own η s1 _ (I.step S1 J1) (h1.bind.mono fun ds G2 hs2 s2 H2 S2 J2 h2 vs hvs => ?_)
    exact spd_of (fun _ _ _ z => z) J2 (repL_cons.mpr ⟨_, _, rfl, hv.mono S2.gg S2.hp, hvs⟩) h2
  · exact h1.elim
theorem de_methT0Q {pl : Sem Bool} {k c : Nat} {f : Addr} {fd : FuncData} {ps : List Str} {n : Nat} {g : List D → DS → R D} (F : FnOk X.prog X.w X.K X.mg X.base (CXk X.prog X.w) k f fd ps (SpD X.K M n g)) (hb : Binds X.K fd ps []) (C : ClsOk X.K M c) (hme : Meth X.K (M.cls c) m f) (hr : Room k X.A) (tk : Takesk X W) (ho : DE M X W o fo)
    (hn : (M.flds c).contains m = false := by rfl)
    (ht : eval (.Call (.Attribute o m apos) [] [] pos) X.env = (do
      let ov ← eval o X.env
      standAt apos.atName
      let (f, first) ← holding [ov] (getMethod ov m pl)
      callWith pos f first (backTo pos (starEach [] X.env)) (backToKw pos (keywordEach [] X.env))) := by rfl) :
    DE M X W (.Call (.Attribute o m apos) [] [] pos) (methD c (gateD n g) fo nilA) := by
  obtain ⟨t, pt, h⟩ := ho.ex
  obtain ⟨ta, pa, ka⟩ := (da_nil (M := M) (X := X) (W := W)).ex
  refine ⟨_, pe_methT0 (pl := pl) pt C.cl hme F hr hb (fun σ => passAtK tk σ) ht, fun A σ H G hs own η s Q I hp => ?_⟩
  refine h A σ H G hs own η s _ I (hp.bind.mono fun d G1 hs1 s1 H1 S1 J1 h1 v hv => ?_)
  split at h1
  · rename_i hc
    obtain ⟨a, dx, fs, rfl, e1, e2⟩ := isC_at J1 hn hv hc
    refine ⟨a, dx, fs, rfl, e1, e2, ?_⟩
    exact spd_of (fun _ _ _ z => z) J1 (repL_cons.mpr ⟨_, _, rfl, hv, repL_nil.mpr rfl⟩) h1
  · exact h1.elim
theorem de_makeTHQ {k c : Nat} {f : Addr} {fd : FuncData} {ps : List Str} {n : Nat} {g : List D → DS → R D} (F : FnOk X.prog X.w X.K X.mg X.base (CXk X.prog X.w) k f fd ps (SpIH X.K M c (n + 1) g)) (hb : Binds X.K fd ps []) (mk : Mk X.K (M.cls c) f) (hm : X.mg x = some (.ref (M.cls c))) (hr : Room (k + 1) X.A) (tk : Takesk X W) (ha : DA M X W (e :: es) fa)
    (hg : Gl X x := by rfl) (hdb : (x == ("__debug__" : Str)) = false := by decide) (he : starEach (e :: es) X.env = (false, eval e X.env) :: starEach es X.env := by rfl) (hpl : (backTo pos (starEach es X.env)).any (·.1) = false := by rfl) :
    DE M X W (.Call (.Name x p) (e :: es) [] pos) (callD (gateD n g) fa) := by
  obtain ⟨t, pt, h⟩ := ha.ex
  refine ⟨_, pe_makeS (E := WE W) mk F hr hg hm hb (fun σ => passAtK tk σ) pt hdb he hpl, fun A σ H G hs own η s Q I hp => ?_⟩
  refine h A σ H G hs own η s _ I (hp.bind.mono fun ds G1 hs1 s1 H1 S1 J1 h1 vs hvs x dx hx hdx hne => ?_)
  unfold gateD at h1
  split at h1
  · rename_i hl
    refine ⟨G1, hs1, s1, ds, x, dx, H1, vs, rfl, hx, hdx, hne, rfl, J1, hvs, by rw [hl], ?_⟩
    refine (h1.sig (E := WE W σ) (fun _ _ _ z => z)).mono fun d G2 hs2 s2 H2 S2 J2 h2 fr => ⟨rfl, h2 _ fr⟩
  · exact h1.elim
end
end DL
set_option Elab.async false
set_option linter.all false
set_option maxRecDepth 100000
set_option maxHeartbeats 4000000
namespace DL
open PySem PySem.Spec PyProof.Rows L2
theorem de_makeH0 {M : Mp} {X : Cx} {W : WX} {x : Str} {p pos : Pos} {k c : Nat} {f : Addr} {fd : FuncData} {ps : List Str} {g : List D → DS → R D} (F : FnOk X.prog X.w X.K X.mg X.base (L2.CX X.prog X.w) k f fd ps (SpIH X.K M c 1 g)) (hb : Binds X.K fd ps []) (mk : Mk X.K (M.cls c) f) (hm : X.mg x = some (.ref (M.cls c))) (hr : Room (k + 1) X.A) (tk : Takes X W) (hW : Flat W)
    (hg : Gl X x := by rfl) (hdb : (x == ("__debug__" : Str)) = false := by decide) :
    DE M X W (.Call (.Name x p) [] [] pos) (callD (gateD 0 g) nilA) := by
  refine ⟨_, pe_make0 (E := WU W) mk F hr hg hm hb (dvs := []) Paired.nil (passes_call tk fun c d σ H ⟨σ', z⟩ => hW c d σ' σ H z) hdb, fun A σ H G hs own η s Q I hp => ?_⟩
  intro x dx hx hdx hne
  refine ⟨G, hs, s, [], x, dx, H, [], rfl, hx, hdx, hne, rfl, I.sim, repL_nil.mpr rfl, rfl, ?_⟩
  have hp2 : RPost X.K M σ W G hs H (g [] s) (fun d G' hs' _ H' => ∀ v, Rep X.K M G' hs' d v → Q v H') := hp
  exact (hp2.sig (E := WU W) (fun _ _ _ z => ⟨σ, z⟩)).mono fun d G2 hs2 s2 H2 S2 J2 h2 fr => ⟨rfl, h2 _ fr⟩
end DL
set_option Elab.async false
set_option linter.all false
set_option maxRecDepth 100000
set_option maxHeartbeats 4000000
namespace L19
open PySem L2 DL
abbrev S_DEEDS : List Str := ["bring", "grind", "fetch"]
def L_DEEDS : List D := [.str "bring", .str "grind", .str "fetch"]
abbrev K_DEEDS : D := .tup L_DEEDS
def toldL : List (Nat × Str) := [(2, "due")]
theorem told_2 {p : List D} {s : DS} : toldK toldL (.ex 2 p s) = .ok (.str "due") s := rfl
theorem told_ok {d : D} {s : DS} : toldK toldL (.ok d s) = .ok d s := rfl
noncomputable def B_Desk_init : DL.Env → DS → F := seqB (fldB 2 0 (cD (.str "1 bring ann rye 12\n1 grind ann rye 8\n2 fetch ann rye 5")) (plV 0)) (seqB (fldB 2 1 (hanD (lstD (nilA))) (plV 0)) (fldB 2 2 (hanD (lstD (nilA))) (plV 0)))
noncomputable def m_Desk_init : List D → DS → R D := inHD 2 1 B_Desk_init
noncomputable def B_Pages_sum_of : DL.Env → DS → F := retB (gSumD (iterD tupO (fldD 1 0 (vB 0))) (gN 4) (tstD (bopD opEq (tupD (consA (fldD 0 1 (vB 4)) (consA (fldD 0 2 (vB 4)) (consA (fldD 0 3 (vB 4)) (nilA))))) (tupD (consA (vD 1) (consA (vD 2) (consA (vD 3) (nilA))))))) (fldD 0 4 (vB 4)) [4])
noncomputable def m_Pages_sum_of : List D → DS → R D := fnD 5 B_Pages_sum_of
noncomputable def B_Pages_ready : DL.Env → DS → F := retB (bopD opSub (methD 1 (gateD 4 m_Pages_sum_of) (vD 0) (consA (cD (.str "grind")) (consA (vD 1) (consA (vD 2) (nilA))))) (methD 1 (gateD 4 m_Pages_sum_of) (vD 0) (consA (cD (.str "fetch")) (consA (vD 1) (consA (vD 2) (nilA))))))
noncomputable def m_Pages_ready : List D → DS → R D := fnD 3 B_Pages_ready
noncomputable def B_Pages_waits : DL.Env → DS → F := retB (bopD opSub (methD 1 (gateD 4 m_Pages_sum_of) (vD 0) (consA (cD (.str "bring")) (consA (vD 1) (consA (vD 2) (nilA))))) (methD 1 (gateD 4 m_Pages_sum_of) (vD 0) (consA (cD (.str "grind")) (consA (vD 1) (consA (vD 2) (nilA))))))
noncomputable def m_Pages_waits : List D → DS → R D := fnD 3 B_Pages_waits
noncomputable def B_Pages_add : DL.Env → DS → F := seqB (ifB (andT (tstD (bopD opNeNT (fldD 1 0 (vB 0)) (tupD (nilA)))) (tstD (bopD opLt (fldD 0 0 (vB 1)) (fldD 0 0 (bopD opIx (fldD 1 0 (vB 0)) (uopD opNeg (cD (.int 1)))))))) (raiseR 1 (consA (cD (.int 0)) (nilA))) (nextB)) (seqB (ifB (andT (tstD (bopD opEq (fldD 0 1 (vB 1)) (cD (.str "grind")))) (tstD (bopD opGt (fldD 0 4 (vB 1)) (methD 1 (gateD 3 m_Pages_waits) (vD 0) (consA (fldD 0 2 (vB 1)) (consA (fldD 0 3 (vB 1)) (nilA))))))) (raiseR 1 (consA (cD (.int 0)) (nilA))) (nextB)) (seqB (ifB (andT (tstD (bopD opEq (fldD 0 1 (vB 1)) (cD (.str "fetch")))) (tstD (bopD opGt (fldD 0 4 (vB 1)) (methD 1 (gateD 3 m_Pages_ready) (vD 0) (consA (fldD 0 2 (vB 1)) (consA (fldD 0 3 (vB 1)) (nilA))))))) (raiseR 1 (consA (cD (.int 0)) (nilA))) (nextB)) (fldB 1 0 (bopD opAdd (fldD 1 0 (vB 0)) (tupD (consA (vD 1) (nilA)))) (plV 0))))
noncomputable def m_Pages_add : List D → DS → R D := fnD 2 B_Pages_add
noncomputable def B_Line_init : DL.Env → DS → F := seqB (ifB (orT (tstD (bopD opLt (vB 1) (cD (.int 0)))) (orT (tstD (uopD (inCO true S_DEEDS) (vB 2))) (tstD (bopD opLt (vB 5) (cD (.int 1)))))) (raiseR 1 (consA (cD (.int 0)) (nilA))) (nextB)) (seqB (ifB (tstD (gAnyD true (iterD tupO (tupD (consA (vD 3) (consA (vD 4) (nilA))))) (gN 6) (yesT) (orD (bopD opEq (vB 6) (cD (.str ""))) (orD (bopD opInS (cD (.str " ")) (vB 6)) (bopD opInS (cD (.str "\n")) (vB 6)))) [6])) (raiseR 1 (consA (cD (.int 0)) (nilA))) (nextB)) (seqB (fldB 0 0 (vD 1) (plV 0)) (seqB (fldB 0 1 (vD 2) (plV 0)) (seqB (fldB 0 2 (vD 3) (plV 0)) (seqB (fldB 0 3 (vD 4) (plV 0)) (fldB 0 4 (vD 5) (plV 0)))))))
noncomputable def m_Line_init : List D → DS → R D := inD 0 7 B_Line_init
noncomputable def B_Line_said : DL.Env → DS → F := retB (mthD isStr joinO (cD (.str " ")) (consA (lstD (consA (bltD strIO (consA (fldD 0 0 (vB 0)) (nilA))) (consA (fldD 0 1 (vB 0)) (consA (fldD 0 2 (vB 0)) (consA (fldD 0 3 (vB 0)) (consA (bltD strIO (consA (fldD 0 4 (vB 0)) (nilA))) (nilA))))))) (nilA)))
noncomputable def m_Line_said : List D → DS → R D := fnD 1 B_Line_said
noncomputable def B_read_row : DL.Env → DS → F := seqB (setB 1 (mthD isStr splitO (vB 0) (consA (cD (.str " ")) (nilA)))) (seqB (ifB (orT (tstD (bopD opNe (bltD lenO (consA (vB 1) (nilA))) (cD (.int 5)))) (tstD (gAnyD true (iterD tupO (tupD (consA (bopD opIx (vB 1) (cD (.int 0))) (consA (bopD opIx (vB 1) (cD (.int 4))) (nilA))))) (gN 2) (yesT) (notD (chD opLe opLe (cD (.int 1)) (bltD lenO (consA (vB 2) (nilA))) (cD (.int 4)))) [2]))) (raiseR 1 (consA (cD (.int 0)) (nilA))) (nextB)) (seqB (ifB (tstD (gAnyD true (iterD strO (bopD opAdd (bopD opIx (vB 1) (cD (.int 0))) (bopD opIx (vB 1) (cD (.int 4))))) (gN 3) (yesT) (bopD opNinS (vB 3) (cD (.str "0123456789"))) [3])) (raiseR 1 (consA (cD (.int 0)) (nilA))) (nextB)) (seqB (setB 4 (calmN 0 5 (callD (gateD 5 m_Line_init) (consA (bltD intSO (consA (bopD opIx (vB 1) (cD (.int 0))) (nilA))) (consA (bopD opIx (vB 1) (cD (.int 1))) (consA (bopD opIx (vB 1) (cD (.int 2))) (consA (bopD opIx (vB 1) (cD (.int 3))) (consA (bltD intSO (consA (bopD opIx (vB 1) (cD (.int 4))) (nilA))) (nilA))))))))) (seqB (ifB (tstD (bopD opNe (methD 0 (gateD 1 m_Line_said) (vD 4) nilA) (vB 0))) (raiseR 1 (consA (cD (.int 0)) (nilA))) (nextB)) (retB (vD 4))))))
noncomputable def m_read_row : List D → DS → R D := fnD 5 B_read_row
noncomputable def L_Pages_init_1 : DL.Env → DS → F := wipB [true, false, false, false] (tryX 1 (dropB (methD 1 (gateD 2 m_Pages_add) (vD 0) (consA (callD (gateD 1 m_read_row) (consA (vD 3) (nilA))) (nilA)))) (raiseR 1 (consA (vD 2) (nilA))))
abbrev E_Pages_init_1 («self» : Sl) : DL.Env := [«self», .no, .no, .no]
noncomputable def S_Pages_init_1 : DL.Env → DS → F := wipB [true, false, false, false] (forW [true, false, false, false] (rngD enumO (consA (ifD (tstD (bopD opEq (vB 1) (cD (.str "")))) (lstD (nilA)) (mthD isStr splitO (vB 1) (consA (cD (.str "\n")) (nilA)))) (nilA))) (gT (gsC (gN 2) (gsC (gN 3) (gsN)))) L_Pages_init_1)
noncomputable def B_Pages_init : DL.Env → DS → F := seqB (fldB 1 0 (tupD (nilA)) (plV 0)) (S_Pages_init_1)
noncomputable def m_Pages_init : List D → DS → R D := inHD 1 4 B_Pages_init
noncomputable def L_Pages_on_floor_1 : DL.Env → DS → F := wipB [true, true, false, false, false, false] (seqB (parB [4, 5] (consA (methD 1 (gateD 3 m_Pages_waits) (vD 0) (consA (vD 2) (consA (vD 3) (nilA)))) (consA (methD 1 (gateD 3 m_Pages_ready) (vD 0) (consA (vD 2) (consA (vD 3) (nilA)))) (nilA)))) (ifB (tstD (bopD opGt (bopD opAdd (vB 4) (vB 5)) (cD (.int 0)))) (mtB isLst (plV 1) (consA (tupD (consA (vD 2) (consA (vD 3) (consA (vD 4) (consA (vD 5) (nilA)))))) (nilA)) appU) (nextB)))
abbrev E_Pages_on_floor_1 («self» : Sl) («found» : Sl) : DL.Env := [«self», «found», .no, .no, .no, .no, .no]
noncomputable def S_Pages_on_floor_1 : DL.Env → DS → F := wipB [true, true, false, false, false, false] (forW [true, true, false, false, false, false] (iterD scrO (bltD sortTDO (consA (calmDT (bltD dictTO (consA (calmD (lcD (iterD tupO (fldD 1 0 (vB 0))) (gN 6) (yesT) (tupD (consA (tupD (consA (fldD 0 2 (vB 6)) (consA (fldD 0 3 (vB 6)) (nilA)))) (consA (cD (.int 1)) (nilA)))) [6])) (nilA)))) (nilA)))) (gT (gsC (gN 2) (gsC (gN 3) (gsN)))) L_Pages_on_floor_1)
noncomputable def B_Pages_on_floor : DL.Env → DS → F := seqB (setOB 1 (lstD (nilA))) (seqB (S_Pages_on_floor_1) (retB (bltD tupleO (consA (vB 1) (nilA)))))
noncomputable def m_Pages_on_floor : List D → DS → R D := fnD 7 B_Pages_on_floor
noncomputable def B_Desk_judged : DL.Env → DS → F := seqB (setB 1 (callD (gateD 1 m_Pages_init) (consA (fldD 2 0 (vB 0)) (nilA)))) (seqB (setB 2 (methD 1 (gateD 1 m_Pages_on_floor) (vD 1) nilA)) (retB (tupD (consA (bltD lenO (consA (fldD 1 0 (vB 1)) (nilA))) (consA (gSumD (iterD tupO (vD 2)) (gN 3) (yesT) (bopD opIx (vB 3) (cD (.int 2))) [3]) (consA (gSumD (iterD tupO (vD 2)) (gN 3) (yesT) (bopD opIx (vB 3) (cD (.int 3))) [3]) (nilA)))))))
noncomputable def m_Desk_judged : List D → DS → R D := fnD 4 B_Desk_judged
noncomputable def B_Desk_redo : DL.Env → DS → F := seqB (ifB (tstD (bopD opEqN (fldD 2 2 (vB 0)) (lstD (nilA)))) (raiseA 2 (consA (cD (.str "nothing to do again")) (nilA))) (nextB)) (seqB (popLB 1 (plE (fldD 2 2 (vB 0)))) (seqB (mtB isLst (plE (fldD 2 1 (vB 0))) (consA (vD 1) (nilA)) appU) (fldB 2 0 (bopD opIx (vB 1) (cD (.int 1))) (plV 0))))
noncomputable def m_Desk_redo : List D → DS → R D := fnD 2 B_Desk_redo
noncomputable def B_Desk_undo : DL.Env → DS → F := seqB (ifB (tstD (bopD opEqN (fldD 2 1 (vB 0)) (lstD (nilA)))) (raiseA 2 (consA (cD (.str "nothing to undo")) (nilA))) (nextB)) (seqB (popLB 1 (plE (fldD 2 1 (vB 0)))) (seqB (mtB isLst (plE (fldD 2 2 (vB 0))) (consA (vD 1) (nilA)) appU) (fldB 2 0 (bopD opIx (vB 1) (cD (.int 0))) (plV 0))))
noncomputable def m_Desk_undo : List D → DS → R D := fnD 2 B_Desk_undo
noncomputable def B_Desk_note : DL.Env → DS → F := seqB (ifB (orT (tstD (bopD opEq (vB 1) (fldD 2 0 (vB 0)))) (tstD (bopD opGt (bltD lenO (consA (vB 1) (nilA))) (cD (.int 600))))) (raiseA 2 (consA (cD (.str "nothing changes, or too much")) (nilA))) (nextB)) (seqB (mtB isLst (plE (fldD 2 1 (vB 0))) (consA (tupD (consA (fldD 2 0 (vB 0)) (consA (vD 1) (nilA)))) (nilA)) appU) (seqB (fldB 2 2 (hanD (lstD (nilA))) (plV 0)) (fldB 2 0 (vD 1) (plV 0))))
noncomputable def m_Desk_note : List D → DS → R D := fnD 2 B_Desk_note
noncomputable def B_Pages_said : DL.Env → DS → F := retB (mthD isStr joinO (cD (.str "\n")) (consA (calmD (lcD (iterD tupO (fldD 1 0 (vB 0))) (gN 1) (yesT) (methD 0 (gateD 1 m_Line_said) (vD 1) nilA) [1])) (nilA)))
noncomputable def m_Pages_said : List D → DS → R D := fnD 2 B_Pages_said
noncomputable def B_Pages_without_last : DL.Env → DS → F := seqB (ifB (tstD (bopD opEqNT (fldD 1 0 (vB 0)) (tupD (nilA)))) (raiseR 1 (consA (cD (.int 0)) (nilA))) (nextB)) (retB (callD (gateD 1 m_Pages_init) (consA (mthD isStr joinO (cD (.str "\n")) (consA (calmD (lcD (iterD tupO (sliceD (fldD 1 0 (vB 0)) (partN) (partS (uopD opNeg (cD (.int 1)))))) (gN 1) (yesT) (methD 0 (gateD 1 m_Line_said) (vD 1) nilA) [1])) (nilA))) (nilA))))
noncomputable def m_Pages_without_last : List D → DS → R D := fnD 2 B_Pages_without_last
noncomputable def B_Desk_strike : DL.Env → DS → F := seqB (tryX 1 (setB 1 (methD 1 (gateD 1 m_Pages_said) (methD 1 (gateD 1 m_Pages_without_last) (callD (gateD 1 m_Pages_init) (consA (fldD 2 0 (vB 0)) (nilA))) nilA) nilA)) (raiseA 2 (consA (cD (.str "no row left")) (nilA)))) (dropB (methD 2 (gateD 2 m_Desk_note) (vD 0) (consA (vD 1) (nilA))))
noncomputable def m_Desk_strike : List D → DS → R D := fnD 2 B_Desk_strike
noncomputable def B_Pages_with_row : DL.Env → DS → F := seqB (dropB (callD (gateD 1 m_read_row) (consA (vD 1) (nilA)))) (seqB (setB 2 (methD 1 (gateD 1 m_Pages_said) (vD 0) nilA)) (retB (callD (gateD 1 m_Pages_init) (consA (ifD (tstD (bopD opEq (vB 2) (cD (.str "")))) (vD 1) (bopD opAdd (bopD opAdd (vB 2) (cD (.str "\n"))) (vB 1))) (nilA)))))
noncomputable def m_Pages_with_row : List D → DS → R D := fnD 3 B_Pages_with_row
noncomputable def B_Desk_tell : DL.Env → DS → F := seqB (tryX 1 (setB 2 (methD 1 (gateD 1 m_Pages_said) (methD 1 (gateD 2 m_Pages_with_row) (callD (gateD 1 m_Pages_init) (consA (fldD 2 0 (vB 0)) (nilA))) (consA (vD 1) (nilA))) nilA)) (raiseA 2 (consA (cD (.str "no row")) (nilA)))) (dropB (methD 2 (gateD 2 m_Desk_note) (vD 0) (consA (vD 2) (nilA))))
noncomputable def m_Desk_tell : List D → DS → R D := fnD 3 B_Desk_tell
noncomputable abbrev B_law_roll := DR.B_law_roll
noncomputable abbrev m_law_roll := DR.m_law_roll
noncomputable def B_law_sum : DL.Env → DS → F := retB (bltD sumO (consA (calmD (lcD (iterD scrO (vD 0)) (gN 2) (tstD (bopD opEq (bopD opIx (mthD isStr splitO (vB 2) (consA (cD (.str " ")) (nilA))) (cD (.int 1))) (vB 1))) (bltD intSO (consA (bopD opIx (mthD isStr splitO (vB 2) (consA (cD (.str " ")) (nilA))) (cD (.int 4))) (nilA))) [2])) (nilA)))
noncomputable def m_law_sum : List D → DS → R D := fnD 3 B_law_sum
noncomputable def B_law_deed : DL.Env → DS → FR := seqR (setB 3 (ifD (tstD (bopD opNe (vB 2) (cD (.str "")))) (mthD isStr splitO (vB 2) (consA (cD (.str "\n")) (nilA))) (lstD (nilA)))) (ifR (tstD (bopD opEq (callD (gateD 2 m_law_roll) (consA (vD 1) (consA (cD (.int 4)) (nilA)))) (cD (.int 0)))) (retR2 (tupD (consA (cloD 0) (consA (ifD (tstD (bopD opNeN (vB 3) (lstD (nilA)))) (mthD isStr joinO (cD (.str "\n")) (consA (sliceD (vB 3) (partN) (partS (bopD opSub (bltD lenO (consA (vB 3) (nilA))) (cD (.int 1))))) (nilA))) (vD 2)) (nilA))))) (seqR (parB [4, 5, 6] (consA (callD (gateD 2 m_law_roll) (consA (vD 1) (consA (cD (.int 5)) (nilA)))) (consA (bopD opIx (lstD (consA (cD (.str "bring")) (consA (cD (.str "grind")) (consA (cD (.str "fetch")) (consA (cD (.str "odd")) (nilA)))))) (callD (gateD 2 m_law_roll) (consA (vD 1) (consA (cD (.int 4)) (nilA))))) (consA (callD (gateD 2 m_law_roll) (consA (vD 1) (consA (cD (.int 12)) (nilA)))) (nilA))))) (seqR (setB 7 (mthD isStr joinO (cD (.str " ")) (consA (lstD (consA (bltD strIO (consA (vB 4) (nilA))) (consA (vD 5) (consA (cD (.str "ann")) (consA (cD (.str "rye")) (consA (bltD strIO (consA (vB 6) (nilA))) (nilA))))))) (nilA)))) (seqR (setB 8 (ifD (tstD (bopD opNeN (vB 3) (lstD (nilA)))) (bltD intSO (consA (bopD opIx (mthD isStr splitO (bopD opIx (vB 3) (bopD opSub (bltD lenO (consA (vB 3) (nilA))) (cD (.int 1)))) (consA (cD (.str " ")) (nilA))) (cD (.int 0))) (nilA))) (cD (.int 0)))) (seqR (setB 9 (bopD opDix (calmDD (dispD (consP (cD (.str "bring")) (cD (.int 99)) (consP (cD (.str "grind")) (bopD opSub (callD (gateD 2 m_law_sum) (consA (vD 3) (consA (cD (.str "bring")) (nilA)))) (callD (gateD 2 m_law_sum) (consA (vD 3) (consA (cD (.str "grind")) (nilA))))) (consP (cD (.str "fetch")) (bopD opSub (callD (gateD 2 m_law_sum) (consA (vD 3) (consA (cD (.str "grind")) (nilA)))) (callD (gateD 2 m_law_sum) (consA (vD 3) (consA (cD (.str "fetch")) (nilA))))) (consP (cD (.str "odd")) (cD (.int 0)) (nilP))))))) (vB 5))) (seqR (setB 10 (andD (bopD opGe (vB 4) (vB 8)) (chD opLe opLe (cD (.int 1)) (vB 6) (vB 9)))) (retR2 (tupD (consA (cloD 1) (consA (ifD (tstD (vD 10)) (mthD isStr joinO (cD (.str "\n")) (consA (bopD opAdd (vB 3) (lstD (consA (vD 7) (nilA)))) (nilA))) (vD 2)) (nilA)))))))))))
def capt : List (List Nat) := [[0], [0, 7]]
noncomputable def FB_0 : DL.Env → DS → R D := methD 2 (gateD 1 m_Desk_strike) (vD 0) nilA
noncomputable def FB_1 : DL.Env → DS → R D := methD 2 (gateD 2 m_Desk_tell) (vD 0) (consA (vD 7) (nilA))
noncomputable def FBs : List (DL.Env → DS → R D) := [FB_0, FB_1]
noncomputable def m_law_deed : List D → DS → R D := deedD 11 capt B_law_deed
noncomputable def m_law_desk : List D → DS → R D := deskD toldL 11 capt FBs
noncomputable abbrev B_law_dice := DR.B_law_dice
noncomputable abbrev m_law_dice := DR.m_law_dice
noncomputable abbrev B_law_rounds := DR.B_law_rounds
noncomputable abbrev m_law_rounds := DR.m_law_rounds
noncomputable def S_law_0x_0 : DL.Env → DS → F := setB 2 (callD (gateD 0 m_Desk_init) nilA)
noncomputable def S_law_0x_1 : DL.Env → DS → F := parB [6, 7] (consA (lstD (consA (fldD 2 0 (vB 2)) (nilA))) (consA (cD (.int 0)) (nilA)))
noncomputable def S_law_0x_2x_0 : DL.Env → DS → F := setB 8 (bopD opIx (vB 6) (vB 7))
noncomputable def S_law_0x_2x_1a_0 : DL.Env → DS → F := setB 9 (bopD opIx (lstD (consA (bopD opSub (cD (.int 0)) (cD (.int 1))) (consA (cD (.int 1)) (nilA)))) (callD (gateD 2 m_law_roll) (consA (vD 1) (consA (cD (.int 2)) (nilA)))))
noncomputable def S_law_0x_2x_1a_1 : DL.Env → DS → F := setB 10 (chD opLe opLt (cD (.int 0)) (bopD opAdd (vB 7) (vB 9)) (bltD lenO (consA (vB 6) (nilA))))
noncomputable def S_law_0x_2x_1a_2a_0 : DL.Env → DS → F := setB 11 (toldD toldL (methD 2 (gateD 1 m_Desk_undo) (vD 2) nilA))
noncomputable def S_law_0x_2x_1a_2b_0 : DL.Env → DS → F := setB 11 (toldD toldL (methD 2 (gateD 1 m_Desk_redo) (vD 2) nilA))
noncomputable def S_law_0x_2x_1a_2 : DL.Env → DS → F := ifB (tstD (bopD opLt (vB 9) (cD (.int 0)))) (S_law_0x_2x_1a_2a_0) (S_law_0x_2x_1a_2b_0)
noncomputable def S_law_0x_2x_1a_3 : DL.Env → DS → F := setB 7 (bopD opAdd (vB 7) (bopD opMul (vB 9) (bltD intO (consA (vB 10) (nilA)))))
noncomputable def S_law_0x_2x_1b_0 : DL.Env → DS → F := asgB (gT (gsC (gN 12) (gsC (gN 13) (gsN)))) (callD (gateD 3 m_law_deed) (consA (vD 2) (consA (vD 1) (consA (vD 8) (nilA)))))
noncomputable def S_law_0x_2x_1b_1 : DL.Env → DS → F := setB 11 (callD (gateD 1 m_law_desk) (consA (vD 12) (nilA)))
noncomputable def S_law_0x_2x_1b_2 : DL.Env → DS → F := setB 10 (bopD opNe (vB 13) (vB 8))
noncomputable def S_law_0x_2x_1b_3a_0 : DL.Env → DS → F := parB [6, 7] (consA (bopD opAdd (sliceD (vB 6) (partN) (partS (bopD opAdd (vB 7) (cD (.int 1))))) (lstD (consA (vD 13) (nilA)))) (consA (bopD opAdd (vB 7) (cD (.int 1))) (nilA)))
noncomputable def S_law_0x_2x_1b_3 : DL.Env → DS → F := ifB (tstD (vD 10)) (S_law_0x_2x_1b_3a_0) (nextB)
noncomputable def S_law_0x_2x_1 : DL.Env → DS → F := ifB (tstD (bopD opEq (callD (gateD 2 m_law_roll) (consA (vD 1) (consA (cD (.int 4)) (nilA)))) (cD (.int 0)))) (seqB (S_law_0x_2x_1a_0) (seqB (S_law_0x_2x_1a_1) (seqB (S_law_0x_2x_1a_2) (S_law_0x_2x_1a_3)))) (wcB (seqB (S_law_0x_2x_1b_0) (seqB (S_law_0x_2x_1b_1) (seqB (S_law_0x_2x_1b_2) (S_law_0x_2x_1b_3)))))
noncomputable def S_law_0x_2x_2a_0 : DL.Env → DS → F := retB (cD (.bl false))
noncomputable def S_law_0x_2x_2 : DL.Env → DS → F := ifB (orT (tstD (bopD opNe (vB 11) (ifD (tstD (vD 10)) (cD .non) (cD (.str "due"))))) (tstD (bopD opNe (fldD 2 0 (vB 2)) (bopD opIx (vB 6) (vB 7))))) (S_law_0x_2x_2a_0) (nextB)
noncomputable def L_law_0x_2 : DL.Env → DS → F := wipB [false, true, true, false, false, false, true, true, false, false, false, false, false, false] (seqB (S_law_0x_2x_0) (seqB (S_law_0x_2x_1) (S_law_0x_2x_2)))
abbrev E_law_0x_2 («dice» : Sl) («desk» : Sl) («past» : Sl) («place» : Sl) : DL.Env := [.no, «dice», «desk», .no, .no, .no, «past», «place», .no, .no, .no, .no, .no, .no]
noncomputable def S_law_0x_2 : DL.Env → DS → F := wipB [false, true, true, false, false, false, true, true, false, false, false, false, false, false] (forW [false, true, true, false, false, false, true, true, false, false, false, false, false, false] (rngD rng1 (consA (callD (gateD 2 m_law_roll) (consA (vD 1) (consA (cD (.int 9)) (nilA)))) (nilA))) (gN 3) L_law_0x_2)
noncomputable def S_law_0x_3 : DL.Env → DS → F := setB 4 (ifD (tstD (bopD opNe (bopD opIx (vB 6) (vB 7)) (cD (.str "")))) (mthD isStr splitO (bopD opIx (vB 6) (vB 7)) (consA (cD (.str "\n")) (nilA))) (lstD (nilA)))
noncomputable def S_law_0x_4 : DL.Env → DS → F := setB 5 (bopD opSub (callD (gateD 2 m_law_sum) (consA (vD 4) (consA (cD (.str "bring")) (nilA)))) (callD (gateD 2 m_law_sum) (consA (vD 4) (consA (cD (.str "grind")) (nilA)))))
noncomputable def S_law_0x_5a_0 : DL.Env → DS → F := retB (cD (.bl false))
noncomputable def S_law_0x_5 : DL.Env → DS → F := ifB (tstD (bopD opNe (methD 2 (gateD 1 m_Desk_judged) (vD 2) nilA) (tupD (consA (bltD lenO (consA (vB 4) (nilA))) (consA (vD 5) (consA (bopD opSub (callD (gateD 2 m_law_sum) (consA (vD 4) (consA (cD (.str "grind")) (nilA)))) (callD (gateD 2 m_law_sum) (consA (vD 4) (consA (cD (.str "fetch")) (nilA))))) (nilA))))))) (S_law_0x_5a_0) (nextB)
noncomputable def L_law_0 : DL.Env → DS → F := wipB [false, false, false, false, false, false, false, false, false, false, false, false, false, false] (seqB (S_law_0x_0) (seqB (S_law_0x_1) (seqB (S_law_0x_2) (seqB (S_law_0x_3) (seqB (S_law_0x_4) (S_law_0x_5))))))
abbrev E_law_0 : DL.Env := [.no, .no, .no, .no, .no, .no, .no, .no, .no, .no, .no, .no, .no, .no]
noncomputable def S_law_0 : DL.Env → DS → F := wipB [false, false, false, false, false, false, false, false, false, false, false, false, false, false] (forW [false, false, false, false, false, false, false, false, false, false, false, false, false, false] (iterD scrO (callD (gateD 2 m_law_rounds) (consA (vD 0) (consA (cD (.int 1)) (nilA))))) (gN 1) L_law_0)
noncomputable def S_law_1 : DL.Env → DS → F := retB (cD (.bl true))
noncomputable def B_law : DL.Env → DS → F := seqB (S_law_0) (S_law_1)
noncomputable def m_law : List D → DS → R D := fnD 14 B_law
local macro_rules | `(tactic| walk_at "dl") => `(tactic| simp -implicitDefEqProofs (disch := first | omega | assumption | (simp only [okN, okNL, okNL_mi, D.has, hasL, flt, isI, isS, List.all_cons, List.all_nil, Bool.or_true, Bool.true_or, Bool.false_or, Bool.false_and, Bool.and_self, Bool.and_true, Bool.true_and]; done) | (simp only [List.length_cons, List.length_nil, List.length_append, List.length_map, List.length_range]; omega) | (simp only [okN, okNL, Bool.and_self, Bool.and_true, Bool.true_and]; decide +kernel) | decide +kernel | fail) only [ opEqDs_d, opEqDs_s, opEqN_l, opNeN_l, List.isEmpty_cons, List.isEmpty_nil, List.isEmpty_map, lc2D_eq, asgmB_eq, opEqO_o, opNeO_o, opEqO_s, opNeO_s, gmG_eq, slB_eq, slU_eq, gmSub_eq, gmN_eq, gmC_eq, gmT_eq, seqK_nx, deref_tup0, calmDD_eq, calmDK_d, dnewD_eq, frzDB_eq, frzDK_d, opDix_i, opDix_s, opDin_i, opDin_s, opDnin_i, opDnin_s, setDi_i, setDi_s, getDi_i, getDi_s, isDic_d, getD1_eq, getD2_eq, get1O_i, get1O_s, get2O_i, get2O_s, lenDO_d, listKO_d, dicK_d, dicV_d, dicI_d, tupIO_d, dicIO_d, dictO_d, nilP_eq, consP_eq, dispD_eq, isKey_i, isKey_s, opIs_x, opIsNot_x, isN_n, isN_i, isN_s, isN_t, isN_l, untD_eq, un0_t, ix0D_eq, isTup0_t, tup0O_l, rgaD_eq, minTO_eq, enumTO_t, maxTO_eq, sortK_eq, bopTD_eq, ofO_some, seqB_eq, then_nx, then_rt, then_bk, then_ct, then_ex, then_bad, bind_ok, bind_ex, bind_bad, toF_ok, toF_ex, toF_bad, ofO_some, ofO_none, nx_ok, cD_eq, vD_0, vD_s, vB_0, vB_o, vB_s, bopD_eq, uopD_eq, tstD_eq, asB_bl, asI_int, deref_int, deref_bl, deref_str, deref_non, deref_tup, deref_lst, deref_dic, deref_obj, deref_scr, deref_han, chD_eq, ch3D_eq, andT_eq, orT_eq, notT_eq, ifD_eq, andD_eq, orD_eq, notD_eq, nilA_eq, consA_eq, tupD_eq, lstD_eq, fldD_eq, bltD_eq, partN_eq, partS_eq, sliceD_eq, callD_eq, gateD_eq, methD_eq, isC_obj, calmD_eq, calmN_eq, calmK_obj, hanD_eq, notObj_l, notObj_t, notObj_d, setB_eq, setOB_eq, setF_eq, setOF_eq, ifB_eq, retB_eq, retN_eq, dropB_eq, nextB_eq, breakB_eq, contB_eq, raiseA_eq, augB_eq, frzB_eq, frzL_nil, frzL_cons, frzE_zl, frzE_zd, frzE_zv, frzE_zn, frzE_s, asgB_eq, asg2B_eq, parB_eq, putAll_nil, putAll_cons, asgFB_eq, nilF_eq, consV_eq, consO_eq, gN_eq, gsN_eq, gsC_eq, gT_eq, fnD_eq, fnK_nx, fnK_rt, fnK_ex, fnK_bad, inD_eq, inK_nx, inK_ex, toldD_eq,  ite_yes, ite_no, dec_yes, dec_no, plV_eq, plK_o, plK_h, plE_eq, plEK_h, wrF_slot, wrF_han, wrS_o, wrH_s, wrSU_s, wrHU_s, fldB_eq, fldU_eq, stB_eq, stAK_s, stAugB_eq, fldAugB_eq, plcD_slot, plcD_han, plS_o, mtB_eq, mthD_eq, isLst_l, appU_l, setL_l, getL_l, ixN_ok, atI_0, atI_1, atI_2, atI_3, atI_4, atI_5, atI_6, atI_7, atI_8, atI_9, atI_10, atI_11, atI_12, atI_13, atI_14, atI_15, forB_eq, rngD_eq, iterD_eq, rng1_int, rng2_int, scrO_l, scrO_s, lstO_l, tupO_l, putK_some, goK_nx, goK_ct, goK_bk, goK_rt, goK_ex, lcD_eq, wipeE_nil, wipeE_cons, yesT_eq, lcPut_some, wipB_eq, forW_eq, preB_eq, wip_nx, wip_bk, wip_ct, wip_rt, wip_ex, wip_bad, keep_t, keep_f, keep_n, asgO_s, asgK_eq, asgFK_eq, putS_nil, putS_v, putS_o, and_self, ite_self, wrS_o, wrSU_s, true_and, and_true, false_and, and_false, decide_true, decide_false, Int.reduceLT, Int.reduceLE, Int.reduceEq, Int.reduceAdd, Int.reduceSub, Int.reduceMul, Int.reduceNeg, Int.reduceDiv, Int.reduceMod, Int.reduceNe, turnF_eq,
  cut_to, cut_from, cut_both, opCut_l, opCut_t, opCut_s, opPow_int, opAdd_tup, opAdd_lst, opEq_ts, opEq_ls, opEq_st, opEq_sl, opNe_ts, opNe_ls, opNe_st, opNe_sl, opEq_ss, opNe_ss, opEq_nn, opNe_self, opEq_self, opNe_nn, opNe_lnil, opEq_lnil, opNe_is, opEq_is, opNe_si, opEq_si, opNe_bb, opEq_bb, opAdd_int, opAug_int, opSub_int, opMul_r, opMul_l, opMulI_r, opMulI_l, opDiv_int, opMod_int, opLt_int, opLe_int, opGt_int, opGe_int, opEq_int, opNe_int, min2_int, max2_int, min3_int, min4_int, opNeg_int, listO_l, listO_t, tupleO_l, tupleO_t, zipO_ll, zipO_tt, zipMO_tl, conIxD_eq, disp1T_eq, opTin_d, opTnin_d, opTix_d, setTi_d, dkT_l, enumO_l, enumLO_l, lenO_l, lenO_t, opIn_lst, opIn_tup, opNin_lst, opNin_tup, opInX_lstF, opInX_tupF, opNinX_lstF, opNinX_tupF, eqB_ss, eqB_ii, List.any_cons, List.any_nil, gSumD_eq, gAnyD_eq, anyF_nil, anyPut_some, absO_int, intO_int, intO_bl, fldO_eq, opIx_t, opIx_l,
  Bool.true_and, Bool.and_true, Bool.false_and, Bool.and_false, List.map_cons, List.map_nil, List.length_cons, List.length_nil, List.set_cons_zero, List.set_cons_succ, List.getElem?_cons_zero, List.getElem?_cons_succ, Option.map_some, Option.bind_some, decide_eq_true_eq, Bool.not_eq_true', decide_eq_false_iff_not, Bool.not_true, Bool.false_eq_true, reduceCtorEq, Bool.not_false, ite_true, ite_false, if_true, if_false, Nat.reduceAdd, Nat.reduceLeDiff, Nat.reduceLT, Nat.reduceSub, beq_self_eq_true, Nat.reduceEqDiff, reduceIte, Int.reduceToNat, Int.reducePow, List.take_zero, List.take_nil, List.drop_nil, List.drop_zero, List.take_succ_cons, List.drop_succ_cons, forF_nil, padE, List.length_append, List.replicate, List.append_nil, List.cons_append, List.nil_append])
theorem law_of (hb : ∀ x : DR.Dc, ∃ s', turnF (gN 1) L_law_0 (.han 0) E_law_0 [x.d] = .nx E_law_0 s') (ns : List Int) (_h : ns.length ≤ 63) : ∃ s, m_law [.scr ns] [] = .ok (.bl true) s := by
  obtain ⟨x, e⟩ := DR.rounds_eq ns
  have e' : m_law_rounds [.scr ns, .int 1] [] = _ := e
  obtain ⟨s', e2⟩ := hb x
  unfold m_law B_law S_law_0
  walk_at "dl"
  rw [e']
  walk_at "dl"
  rw [forF_cons2, e2]
  unfold S_law_1
  walk_at "dl"
  exact ⟨_, rfl⟩
end L19
set_option Elab.async false
set_option linter.all false
set_option maxRecDepth 100000
set_option maxHeartbeats 2000000
namespace DR
open PySem L2 DL
end DR
set_option Elab.async false
set_option linter.all false
set_option maxRecDepth 100000
set_option maxHeartbeats 2000000
namespace DR
open PySem L2 DL
end DR
set_option Elab.async false
set_option linter.all false
set_option maxRecDepth 100000
set_option maxHeartbeats 2000000
namespace DR
open PySem L2 DL
/-- the numbers of a row, by place -/
theorem atI_rmap {n : Nat} (y : Nat → D) {i : Int} (h : 0 ≤ i ∧ i < n) : atI ((List.range n).map y) i = some (y i.toNat) := by
  rw [atI_at (by rw [List.length_map, List.length_range]; omega), List.getElem?_map, List.getElem?_range (by omega)]
  rfl
theorem intsOf_fmap {γ : Type} (f : γ → Int) (l : List γ) : intsOf (l.map fun a => D.int (f a)) = some (l.map f) := by
  have := intsOf_map (l.map f)
  rwa [List.map_map] at this
theorem sum_ones {γ : Type} (l : List γ) : (l.map fun _ => (1 : Int)).sum = l.length := by
  induction l with
  | nil => rfl
  | cons a l ih => rw [List.map_cons, List.sum_cons, ih, List.length_cons]; omega
end DR
set_option Elab.async false
set_option linter.all false
set_option maxRecDepth 100000
set_option maxHeartbeats 2000000
namespace DR
open PySem L2 DL
structure Ord {γ : Type} (lt : γ → γ → Bool) : Prop where
  asy : ∀ a b, lt a b = true → lt b a = false
  tr : ∀ a b c, lt a b = false → lt b c = false → lt a c = false
abbrev tI (l : List Int) : D := .tup (l.map .int)
abbrev pr (p : Int × Int) : D := .tup [.int p.1, .int p.2]
theorem get_last {α : Type} [Inhabited α] {l : List α} {a : α} : (l ++ [a])[l.length]! = a := by
  rw [getElem!_pos (l ++ [a]) l.length (by simp), List.getElem_concat_length rfl]
end DR
set_option Elab.async false
set_option linter.all false
set_option maxRecDepth 100000
set_option maxHeartbeats 2000000
namespace DR
open PySem L2 DL
theorem sortD_map {γ : Type} (e : γ → D) (lt : γ → γ → Bool) (l : List γ) (h : ∀ x y, ltD (e x) (e y) = lt x y) : sortD (l.map e) = (l.mergeSort fun a b => !lt b a).map e := by
  unfold sortD
  exact (List.map_mergeSort fun a _ b _ => by rw [h]).symm
theorem tupsOk_all {l : List D} (h : ∀ d ∈ l, ∃ a t, d = .tup (a :: t)) : tupsOk l = true := by
  unfold tupsOk
  rw [Bool.or_eq_true]
  refine .inl (List.all_eq_true.mpr fun d hd => ?_)
  obtain ⟨a, t, rfl⟩ := h d hd
  rfl
def look (m : List (Int × Int)) (k : Int) : Option Int := (m.find? fun p => decide (p.1 = k)).map (·.2)
theorem atI_map {γ : Type} [Inhabited γ] (y : γ → D) {l : List γ} {i : Int} (h : 0 ≤ i ∧ i < l.length) : atI (l.map y) i = some (y l[i.toNat]!) := by
  have hk : i.toNat < l.length := by omega
  unfold atI
  rw [ixN_ok (by rw [List.length_map]; exact h)]
  show (l.map y)[i.toNat]? = _
  rw [List.getElem?_map, List.getElem?_eq_getElem hk, getElem!_pos l i.toNat hk]
  rfl
end DR
set_option Elab.async false
set_option linter.all false
set_option maxRecDepth 100000
set_option maxHeartbeats 2000000
namespace DL
open PySem PySem.Spec PyProof.Rows L2 DR
def ins {γ : Type} [DecidableEq γ] (K : List γ) (k : γ) : List γ := if k ∈ K then K else K ++ [k]
def ded {γ : Type} [DecidableEq γ] (K l : List γ) : List γ := l.foldl ins K
section
variable {γ : Type} [DecidableEq γ]
theorem mem_ins {K : List γ} {k z : γ} : z ∈ ins K k ↔ z ∈ K ∨ z = k := by
  unfold ins
  split
  · rename_i h
    exact ⟨.inl, fun q => q.elim id fun e => e ▸ h⟩
  · simp
theorem mem_ded {z : γ} : ∀ {l K : List γ}, z ∈ ded K l ↔ z ∈ K ∨ z ∈ l
  | [], K => by simp [ded]
  | a :: l, K => by
    have := mem_ded (z := z) (l := l) (K := ins K a)
    rw [show ded K (a :: l) = ded (ins K a) l from rfl, this, mem_ins, List.mem_cons]
    constructor
    · rintro ((h | h) | h)
      · exact .inl h
      · exact .inr (.inl h)
      · exact .inr (.inr h)
    · rintro (h | h | h)
      · exact .inl (.inl h)
      · exact .inl (.inr h)
      · exact .inr h
theorem ins_len (K : List γ) (k : γ) : (ins K k).length ≤ K.length + 1 := by
  unfold ins; split <;> simp
theorem ded_len : ∀ (l K : List γ), (ded K l).length ≤ K.length + l.length
  | [], _ => by simp [ded]
  | a :: l, K => by
    have := ded_len l (ins K a)
    have h2 := ins_len K a
    rw [show ded K (a :: l) = ded (ins K a) l from rfl, List.length_cons]
    omega
end
end DL
set_option Elab.async false
set_option linter.all false
set_option maxRecDepth 100000
set_option maxHeartbeats 2000000
namespace DR
open PySem L2 DL
/-- a roll -/
theorem roll_ex (x : Dc) (m : Int) (h : 0 < m ∧ m < 18446744073709551616) : ∃ v x', (0 ≤ v ∧ v < m) ∧ ∀ t, m_law_roll [.han 0, .int m] (Dc.d x :: t) = .ok (.int v) (Dc.d x' :: t) :=
  ⟨_, _, x.roll_bd h.1, fun t => roll_eq x m t h⟩
theorem okN_non {n : Nat} : okN n .non = true := rfl
theorem ite_ok_t {c : Prop} [Decidable c] {b : Bool} {s : DS} : (if c then R.ok true s else R.ok b s) = R.ok (decide c || b) s := by
  by_cases h : c
  · rw [if_pos h, decide_eq_true h]; rfl
  · rw [if_neg h, decide_eq_false h]; rfl
theorem ite_ok_f {c : Prop} [Decidable c] {b : Bool} {s : DS} : (if c then R.ok b s else R.ok false s) = R.ok (decide c && b) s := by
  by_cases h : c
  · rw [if_pos h, decide_eq_true h]; rfl
  · rw [if_neg h, decide_eq_false h]; rfl
section
variable {η : DL.Env} {s : DS} {put : D → DL.Env → Option DL.Env} {ft : DL.Env → DS → R Bool} {fe : DL.Env → DS → R D}
theorem lcm_ {γ : Type} {e : γ → D} {y : γ → D} {l : List γ} (h : ∀ a ∈ l, ∃ η1, put (e a) η = some η1 ∧ fe η1 s = .ok (y a) s) : lcF put yesT fe η (l.map e) s = .ok (l.map y) s := lcF_map e y l h
theorem lcf_ {γ : Type} {e : γ → D} {t : γ → Bool} {y : γ → D} {l : List γ} (h : ∀ a ∈ l, ∃ η1, put (e a) η = some η1 ∧ ft η1 s = .ok (t a) s ∧ (t a = true → fe η1 s = .ok (y a) s)) : lcF put ft fe η (l.map e) s = .ok ((l.filter t).map y) s := lcF_pure e t y l h
theorem anym_ {γ : Type} {e : γ → D} {y : γ → Bool} {l : List γ} (h : ∀ a ∈ l, ∃ η1, put (e a) η = some η1 ∧ fe η1 s = .ok (.bl (y a)) s) : anyF true put yesT fe η (l.map e) s = .ok (.bl (l.any y)) s := by
  rw [anyF_pure e (fun _ => true) y l fun a ha => by
    obtain ⟨η1, h1, h2⟩ := h a ha
    exact ⟨η1, h1, rfl, fun _ => h2⟩]
  simp
end
theorem deref_h1 {x y : D} {t : DS} : deref (x :: y :: t) (.han 1) = y := rfl
theorem deref_h2 {x y z : D} {t : DS} : deref (x :: y :: z :: t) (.han 2) = z := rfl
theorem toNat_1 {i : Nat} : (1 + (i : Int)).toNat = i + 1 := by omega
theorem toNat_11 {i : Nat} : (1 + (i : Int) - 1).toNat = i := by omega
theorem toNat_p {i : Nat} : ((i : Int) + 1).toNat = i + 1 := by omega
theorem eqB_nn : eqB .non .non = true := rfl
theorem eqB_ns {z : Str} : eqB .non (.str z) = false := rfl
theorem eqB_sn {z : Str} : eqB (.str z) .non = false := rfl
theorem eqB_ni {z : Int} : eqB .non (.int z) = false := rfl
theorem eqB_in {z : Int} : eqB (.int z) .non = false := rfl
theorem eqB_bb {a b : Bool} : eqB (.bl a) (.bl b) = (a == b) := rfl
theorem eqB_tt {l m : List D} : eqB (.tup l) (.tup m) = eqBL l m := by unfold eqB; rfl
theorem eqBL_nn : eqBL [] [] = true := by unfold eqBL; rfl
theorem eqBL_cc {x y : D} {l m : List D} : eqBL (x :: l) (y :: m) = (eqB x y && eqBL l m) := by rw [eqBL]
theorem eqBL_nc {y : D} {m : List D} : eqBL [] (y :: m) = false := by simp [eqBL]
theorem eqBL_cn {y : D} {m : List D} : eqBL (y :: m) [] = false := by simp [eqBL]
theorem eqB_nt {m : List D} : eqB .non (.tup m) = false := rfl
theorem eqB_tn {m : List D} : eqB (.tup m) .non = false := rfl
theorem opEq_tt {x y : D} {l m : List D} (h : okN 9 (.tup (x :: l)) = true) (h2 : okN 9 (.tup (y :: m)) = true) : opEq (.tup (x :: l)) (.tup (y :: m)) = some (.bl (eqBL (x :: l) (y :: m))) := by rw [opEq_ok h h2, eqB_tt]
theorem opNe_tt {x y : D} {l m : List D} (h : okN 9 (.tup (x :: l)) = true) (h2 : okN 9 (.tup (y :: m)) = true) : opNe (.tup (x :: l)) (.tup (y :: m)) = some (.bl (!eqBL (x :: l) (y :: m))) := by rw [opNe_ok h h2, eqB_tt]
theorem opNe_xn {z : Str} (h : PyData.strOk z = true) : opNe (.str z) .non = some (.bl true) := by rw [opNe_ok (by simpa [okN] using h) rfl]; rfl
theorem opNe_nx {z : Str} (h : PyData.strOk z = true) : opNe .non (.str z) = some (.bl true) := by rw [opNe_ok rfl (by simpa [okN] using h)]; rfl
theorem opNe_nnon : opNe .non .non = some (.bl false) := by rw [opNe_ok rfl rfl]; rfl
theorem str_beq {a b : Str} : (a == b) = decide (a = b) := by
  rw [Bool.eq_iff_iff]; simp
theorem for_pre {γ : Type} {put : D → DL.Env → Option DL.Env} {f : DL.Env → DS → F} (E : List γ → DL.Env) (S : List γ → DS) (e : γ → D) (l : List γ) (h : ∀ pre a post, l = pre ++ a :: post → turnF put f (e a) (E pre) (S pre) = .nx (E (pre ++ [a])) (S (pre ++ [a]))) : forF put f (l.map e) (E []) (S []) = .nx (E l) (S l) := by
  have key : ∀ (post pre : List γ), l = pre ++ post → forF put f (post.map e) (E pre) (S pre) = .nx (E l) (S l) := by
    intro post
    induction post with
    | nil =>
      intro pre e1
      rw [List.append_nil] at e1
      rw [List.map_nil, forF_nil, e1]
    | cons a post ih =>
      intro pre e1
      rw [List.map_cons, forF_cons2, h pre a post e1, goK_nx]
      exact ih (pre ++ [a]) (by rw [e1]; simp)
  exact key l [] rfl
theorem flt_strs {z : Str} {l : List Str} : flt (.str z) (l.map D.str) = true := by
  unfold flt
  rw [Bool.or_eq_true]
  refine .inr ?_
  rw [Bool.and_eq_true]
  refine ⟨rfl, List.all_eq_true.mpr fun d hd => ?_⟩
  obtain ⟨a, _, rfl⟩ := List.mem_map.mp hd
  rfl
theorem flt_intsL {z : Int} {l : List Int} : flt (.int z) (l.map D.int) = true := by
  unfold flt
  rw [Bool.or_eq_true]
  refine .inl ?_
  rw [Bool.and_eq_true]
  refine ⟨rfl, List.all_eq_true.mpr fun d hd => ?_⟩
  obtain ⟨a, _, rfl⟩ := List.mem_map.mp hd
  rfl
theorem any_strs {z : Str} {l : List Str} : ((l.map D.str).any fun y => eqB y (.str z)) = decide (z ∈ l) := by
  induction l with
  | nil => rfl
  | cons a l ih =>
    rw [List.map_cons, List.any_cons, ih, eqB_ss, str_beq, Bool.eq_iff_iff]
    simp only [Bool.or_eq_true, decide_eq_true_eq, List.mem_cons]
    exact ⟨fun h => h.imp Eq.symm id, fun h => h.imp Eq.symm id⟩
theorem any_intsL {z : Int} {l : List Int} : ((l.map D.int).any fun y => eqB y (.int z)) = decide (z ∈ l) := by
  induction l with
  | nil => rfl
  | cons a l ih =>
    rw [List.map_cons, List.any_cons, ih, eqB_ii, Bool.eq_iff_iff]
    simp only [Bool.or_eq_true, decide_eq_true_eq, List.mem_cons, beq_iff_eq]
    exact ⟨fun h => h.imp Eq.symm id, fun h => h.imp Eq.symm id⟩
theorem inX_strs {z : Str} {l : List Str} : opInX (.str z) (.lst (l.map D.str)) = some (.bl (decide (z ∈ l))) := by rw [opInX_lstF flt_strs, any_strs]
theorem ninX_strs {z : Str} {l : List Str} : opNinX (.str z) (.lst (l.map D.str)) = some (.bl (!decide (z ∈ l))) := by rw [opNinX_lstF flt_strs, any_strs]
theorem inX_ints {z : Int} {l : List Int} : opInX (.int z) (.lst (l.map D.int)) = some (.bl (decide (z ∈ l))) := by rw [opInX_lstF flt_intsL, any_intsL]
theorem ninX_ints {z : Int} {l : List Int} : opNinX (.int z) (.lst (l.map D.int)) = some (.bl (!decide (z ∈ l))) := by rw [opNinX_lstF flt_intsL, any_intsL]
theorem inX_strsT {z : Str} {l : List Str} : opInX (.str z) (.tup (l.map D.str)) = some (.bl (decide (z ∈ l))) := by rw [opInX_tupF flt_strs, any_strs]
theorem ninX_strsT {z : Str} {l : List Str} : opNinX (.str z) (.tup (l.map D.str)) = some (.bl (!decide (z ∈ l))) := by rw [opNinX_tupF flt_strs, any_strs]
theorem inX_intsT {z : Int} {l : List Int} : opInX (.int z) (.tup (l.map D.int)) = some (.bl (decide (z ∈ l))) := by rw [opInX_tupF flt_intsL, any_intsL]
theorem ninX_intsT {z : Int} {l : List Int} : opNinX (.int z) (.tup (l.map D.int)) = some (.bl (!decide (z ∈ l))) := by rw [opNinX_tupF flt_intsL, any_intsL]
theorem sumO_nil : sumO [.lst []] = some (.int 0) := rfl
end DR
set_option Elab.async false
set_option linter.all false
set_option maxRecDepth 100000
set_option maxHeartbeats 2000000
namespace DR
open PySem L2 DL PyProof.Rows
theorem ltD_ord : Ord ltD where
  asy a b h := by
    cases q : ltD b a with
    | false => rfl
    | true =>
      have := PyProof.Rows.lex_trans _ _ _ h q
      rw [PyProof.Rows.lex_irrefl] at this
      cases this
  tr a b c h g := by
    cases q : ltD a c with
    | false => rfl
    | true =>
      rcases PyProof.Rows.lex_negTrans _ (PySem.W.keyToks (toPD b)) _ q with k | k
      · rw [show lexLt itemOrd _ _ = ltD a b from rfl, h] at k; cases k
      · rw [show lexLt itemOrd _ _ = ltD b c from rfl, g] at k; cases k
theorem Ord.of {γ : Type} (e : γ → D) : Ord (fun a b => ltD (e a) (e b)) := ⟨fun a b => ltD_ord.asy _ _, fun a b c => ltD_ord.tr _ _ _⟩
end DR
namespace DL
open PySem PySem.Spec PyProof.Rows L2 DR
end DL
set_option Elab.async false
set_option linter.all false
set_option maxRecDepth 100000
set_option maxHeartbeats 2000000
namespace DR
open PySem L2 DL
theorem pos_get {pp t : DS} {x : D} : (pp ++ x :: t)[pp.length]? = some x := by simp
theorem pos_set {pp t : DS} {x y : D} : (pp ++ x :: t).set pp.length y = pp ++ y :: t := by simp
theorem pos_deref {pp t : DS} {x : D} : deref (pp ++ x :: t) (.han pp.length) = x := by
  show ((pp ++ x :: t)[pp.length]?).getD _ = x
  rw [pos_get]
  rfl
end DR
set_option Elab.async false
set_option linter.all false
set_option maxRecDepth 100000
set_option maxHeartbeats 4000000
section
open PySem L2 DL DR
local macro_rules | `(tactic| simp_arith [$ls,*]) => `(tactic| simp -implicitDefEqProofs (disch := first | omega | assumption | exact DR.okN_non | (simp only [okN, okNL, okNL_mi, D.has, hasL, flt, isI, isS, List.all_cons, List.all_nil, Bool.or_true, Bool.true_or, Bool.false_or, Bool.false_and, Bool.and_self, Bool.and_true, Bool.true_and]; done) | (simp only [List.length_cons, List.length_nil, List.length_append, List.length_map, List.length_range]; omega) | (simp only [okN, okNL, Bool.and_self, Bool.and_true, Bool.true_and]; decide +kernel) | (simp only [okN, okNL, Bool.and_eq_true, and_true, true_and]; (try (repeat' apply And.intro)); all_goals first | rfl | assumption) | decide +kernel | fail) only [$ls,*, List.length_map, List.length_range, pos_get, pos_set, pos_deref, opNeNT_t, opEqNT_t, opNeM_d, opNeM_s, mthD_eq, raiseR_eq, inCO_s, atI_map, atI_rmap, sumO_map, intsOf_fmap, sum_ones, rngL_len, Option.getD_some, Option.getD_none, Option.isSome_some, Option.isSome_none, Option.map_none, Int.toNat_natCast, Int.zero_add, Int.sub_zero, Int.add_zero, List.length_map, List.length_range, deref_h1, deref_h2, ite_ok_t, ite_ok_f, sumO_nil, inX_strs, ninX_strs, inX_ints, ninX_ints, inX_strsT, ninX_strsT, inX_intsT, ninX_intsT, toNat_1, toNat_11, toNat_p, opEqDs_d, opEqDs_s, opEqN_l, opNeN_l, List.isEmpty_cons, List.isEmpty_nil, List.isEmpty_map, lc2D_eq, popB_eq, popK_eq, popM_c, popSet_s, popSet_h, popU_c, conDicD_eq, sqO_t, sqO_l, revO_t, asgmB_eq, opEqO_o, opNeO_o, opEqO_s, opNeO_s, gmG_eq, slB_eq, slU_eq, gmSub_eq, gmN_eq, gmC_eq, gmT_eq, seqK_nx, deref_tup0, calmDD_eq, calmDK_d, dnewD_eq, frzDB_eq, frzDK_d, opDix_i, opDix_s, opDin_i, opDin_s, opDnin_i, opDnin_s, setDi_i, setDi_s, getDi_i, getDi_s, isDic_d, getD1_eq, getD2_eq, get1O_i, get1O_s, get2O_i, get2O_s, lenDO_d, listKO_d, dicK_d, dicV_d, dicI_d, tupIO_d, lstIO_d, lrg1_is, dicIO_d, dictO_d, nilP_eq, consP_eq, dispD_eq, isKey_i, isKey_s, opIs_x, opIsNot_x, isN_n, isN_i, isN_s, isN_t, isN_l, untD_eq, un0_t, ix0D_eq, isTup0_t, tup0O_l, rgaD_eq, minTO_eq, enumTO_t, maxTO_eq, sortK_eq, bopTD_eq, ofO_some, seqB_eq, then_nx, then_rt, then_bk, then_ct, then_ex, then_bad, bind_ok, bind_ex, bind_bad, toF_ok, toF_ex, toF_bad, ofO_some, ofO_none, nx_ok, cD_eq, vD_0, vD_s, vB_0, vB_o, vB_s, bopD_eq, uopD_eq, tstD_eq, asB_bl, asI_int, deref_int, deref_bl, deref_str, deref_non, deref_tup, deref_lst, deref_dic, deref_obj, deref_scr, deref_han, chD_eq, ch3D_eq, andT_eq, orT_eq, notT_eq, ifD_eq, andD_eq, orD_eq, notD_eq, nilA_eq, consA_eq, tupD_eq, lstD_eq, fldD_eq, bltD_eq, partN_eq, partS_eq, sliceD_eq, callD_eq, gateD_eq, methD_eq, isC_obj, calmD_eq, calmN_eq, calmK_obj, hanD_eq, notObj_l, notObj_t, notObj_d, setB_eq, setOB_eq, setF_eq, setOF_eq, ifB_eq, retB_eq, retN_eq, dropB_eq, nextB_eq, breakB_eq, contB_eq, raiseA_eq, augB_eq, frzB_eq, frzL_nil, frzL_cons, frzE_zl, frzE_zd, frzE_zv, frzE_zn, frzE_s, asgB_eq, asg2B_eq, parB_eq, putAll_nil, putAll_cons, asgFB_eq, nilF_eq, consV_eq, consO_eq, gN_eq, gsN_eq, gsC_eq, gT_eq, fnD_eq, fnK_nx, fnK_rt, fnK_ex, fnK_bad, inD_eq, inK_nx, inK_ex, toldD_eq,  ite_yes, ite_no, dec_yes, dec_no, plV_eq, plK_o, plK_h, plE_eq, plEK_h, wrF_slot, wrF_han, wrS_o, wrH_s, wrSU_s, wrHU_s, fldB_eq, fldU_eq, stB_eq, stAK_s, stAugB_eq, fldAugB_eq, plcD_slot, plcD_han, plS_o, mtB_eq, mthD_eq, isLst_l, appU_l, setL_l, getL_l, ixN_ok, atI_0, atI_1, atI_2, atI_3, atI_4, atI_5, atI_6, atI_7, atI_8, atI_9, atI_10, atI_11, atI_12, atI_13, atI_14, atI_15, forB_eq, rngD_eq, iterD_eq, rng1_int, rng2_int, scrO_l, scrO_s, lstO_l, tupO_l, putK_some, goK_nx, goK_ct, goK_bk, goK_rt, goK_ex, lcD_eq, wipeE_nil, wipeE_cons, yesT_eq, lcPut_some, wipB_eq, forW_eq, preB_eq, wip_nx, wip_bk, wip_ct, wip_rt, wip_ex, wip_bad, keep_t, keep_f, keep_n, asgO_s, asgK_eq, asgFK_eq, putS_nil, putS_v, putS_o, and_self, ite_self, wrS_o, wrSU_s, true_and, and_true, false_and, and_false, decide_true, decide_false, Int.reduceLT, Int.reduceLE, Int.reduceEq, Int.reduceAdd, Int.reduceSub, Int.reduceMul, Int.reduceNeg, Int.reduceDiv, Int.reduceMod, Int.reduceNe, turnF_eq,
  cut_to, cut_from, cut_both, opCut_l, opCut_t, opCut_s, opPow_int, opAdd_tup, opAdd_lst, opEq_ts, opEq_ls, opEq_st, opEq_sl, opNe_ts, opNe_ls, opNe_st, opNe_sl, opEq_ss, opNe_ss, opEq_nn, opNe_self, opEq_self, opNe_nn, opNe_lnil, opEq_lnil, opNe_is, opEq_is, opNe_si, opEq_si, opNe_bb, opEq_bb, opAdd_int, opAug_int, opSub_int, opMul_r, opMul_l, opMulI_r, opMulI_l, opDiv_int, opMod_int, opLt_int, opLe_int, opGt_int, opGe_int, opEq_int, opNe_int, min2_int, max2_int, min3_int, min4_int, opNeg_int, listO_l, listO_t, tupleO_l, tupleO_t, zipO_ll, zipO_tt, zipMO_tl, conIxD_eq, disp1T_eq, opTin_d, opTnin_d, opTix_d, setTi_d, dkT_l, sortXO_l, sortXO_d, sortXO_t, deref_dit, enumO_l, enumLO_l, tryB_eq, tryK_nx, tryK_rt, tryK_ex1, tryK_ex0, nox_rt, nox_nx, Bool.true_or, Bool.or_true, Bool.false_or, Bool.or_false, lenO_l, lenO_t, opIn_lst, opIn_tup, opNin_lst, opNin_tup, opInX_lstF, opLtX_int, opGtX_int, opInX_tupF, opNinX_lstF, opNinX_tupF, opInX_lst, opInX_tup, opNinX_lst, opNinX_tup, eqB_nn, eqB_ns, eqB_sn, eqB_ni, eqB_in, eqB_bb, eqB_tt, eqBL_nn, eqBL_cc, eqBL_nc, eqBL_cn, eqB_nt, eqB_tn, opEq_tt, opNe_tt, opNe_xn, opNe_nx, opNe_nnon, str_beq, eqB_ss, eqB_ii, List.any_cons, List.any_nil, gSumD_eq, gAnyD_eq, anyF_nil, anyPut_some, absO_int, intO_int, intO_bl, fldO_eq, opIx_t, opIx_l,
  Bool.true_and, Bool.and_true, Bool.false_and, Bool.and_false, List.map_cons, List.map_nil, List.length_cons, List.length_nil, List.set_cons_zero, List.set_cons_succ, List.getElem?_cons_zero, List.getElem?_cons_succ, Option.map_some, Option.bind_some, decide_eq_true_eq, Bool.not_eq_true', decide_eq_false_iff_not, Bool.not_true, Bool.false_eq_true, reduceCtorEq, Bool.not_false, ite_true, ite_false, if_true, if_false, Nat.reduceAdd, Nat.reduceLeDiff, Nat.reduceLT, Nat.reduceSub, beq_self_eq_true, Nat.reduceEqDiff, reduceIte, Int.reduceToNat, Int.reducePow, List.take_zero, List.take_nil, List.drop_nil, List.drop_zero, List.take_succ_cons, List.drop_succ_cons, forF_nil, padE, List.length_append, List.replicate, List.append_nil, List.cons_append, List.nil_append])
namespace Kk19
open PySem L2 DL DR L19
theorem isStr_s {a : Str} : isStr (.str a) = true := rfl
theorem opAdd_ss {a b : Str} (h : a.length + b.length ≤ 16777216) : opAdd (.str a) (.str b) = some (.str (a ++ b)) := if_pos h
theorem lenO_s {z : Str} (h : z.length ≤ 16777216) : lenO [.str z] = some (.int (z.length : Nat)) := if_pos h
theorem strO_s {x : Str} : strO (.str x) = some (x.cps.toList.map fun c => D.str ⟨#[c]⟩) := rfl
def sI (d : Int) : Str := Str.ofString (toString d)
theorem tl_len (x : Str) : x.length = (TL.tl x).length := TL.len_tl x
theorem sI_tl {d : Int} (h : 0 ≤ d) : TL.tl (sI d) = TL.numL d.toNat := by
  obtain ⟨n, rfl⟩ := Int.eq_ofNat_of_zero_le h
  exact TL.tl_num n
theorem sI_len {d : Int} (h : 0 ≤ d) (h2 : d < 1000) : 1 ≤ (sI d).length ∧ (sI d).length ≤ 3 := by
  rw [tl_len, sI_tl h]
  have h3 := TL.numL_len (n := d.toNat) (k := 3) (by decide) (by omega)
  have h4 := List.length_pos_iff.mpr (TL.numL_ne d.toNat)
  omega
theorem sI_free {d : Int} {c : Nat} (h : 0 ≤ d) (hc : c < 48 ∨ 57 < c) : c ∉ TL.tl (sI d) := by
  rw [sI_tl h]
  exact TL.numL_free hc
theorem sI_dig {d : Int} {c : Nat} (h : 0 ≤ d) (hc : c ∈ TL.tl (sI d)) : 48 ≤ c ∧ c ≤ 57 := by
  rw [sI_tl h] at hc
  exact TL.numL_digits _ c hc
theorem sI_int {d : Int} (h : 0 ≤ d) (h2 : d < 1000) : intSO [.str (sI d)] = some (.int d) := by
  have hl := sI_len h h2
  have e : intSO [.str (sI d)] = if (sI d).length ≤ 640 then (intText? (sI d)).map D.int else none := rfl
  rw [e, if_pos (by omega)]
  obtain ⟨n, rfl⟩ := Int.eq_ofNat_of_zero_le h
  have e2 : intText? (sI ((n : Nat) : Int)) = some (n : Int) := TL.int_num (by
    have := TL.numL_len (n := n) (k := 3) (by decide) (by omega)
    omega)
  rw [e2]
  rfl
theorem sI_str {d : Int} (h : 0 ≤ d) (h2 : d < 1000) : strIO [.int d] = some (.str (sI d)) := if_pos (by omega)
theorem strOk_iff {x : Str} : PyData.strOk x = true ↔ ∀ c ∈ TL.tl x, c < 0x110000 := by
  unfold PyData.strOk
  rw [← Array.all_toList, List.all_eq_true]
  constructor
  · intro h c hc
    exact of_decide_eq_true (h c hc)
  · intro h c hc
    exact decide_eq_true (h c hc)
theorem sI_ok {d : Int} (h : 0 ≤ d) : PyData.strOk (sI d) = true := strOk_iff.mpr fun c hc => by
  have := sI_dig h hc
  omega
theorem strOk_app {a b : Str} (ha : PyData.strOk a = true) (hb : PyData.strOk b = true) : PyData.strOk (a ++ b) = true := strOk_iff.mpr fun c hc => by
  rw [TL.tl_append] at hc
  rcases List.mem_append.mp hc with h | h
  · exact strOk_iff.mp ha c h
  · exact strOk_iff.mp hb c h
theorem strOk_join {a : Str} (ha : PyData.strOk a = true) : ∀ {l : List Str}, (∀ z ∈ l, PyData.strOk z = true) → PyData.strOk (Txt.join a l) = true := by
  intro l hl
  rw [TL.join_eq]
  induction l with
  | nil =>
    show PyData.strOk Str.empty = true
    decide +kernel
  | cons x l ih =>
    cases l with
    | nil => exact hl x List.mem_cons_self
    | cons y l => exact strOk_app (strOk_app (hl x List.mem_cons_self) ha) (ih fun z hz => hl z (List.mem_cons_of_mem _ hz))
structure Rw where
  d : Int
  s : Str
  o : Str
  k : Str
  n : Int
abbrev rwD (r : Rw) : D := .obj 0 [.int r.d, .str r.s, .str r.o, .str r.k, .int r.n]
def wds (r : Rw) : List Str := [sI r.d, r.s, r.o, r.k, sI r.n]
def txt (r : Rw) : Str := Txt.join " " (wds r)
structure Wd (o : Str) : Prop where
  ne : ¬ o = ""
  sp : 32 ∉ TL.tl o
  nl : 10 ∉ TL.tl o
  len : o.length ≤ 100
  ok : PyData.strOk o = true
structure OkR (r : Rw) : Prop where
  d : 0 ≤ r.d ∧ r.d < 1000
  s : r.s ∈ S_DEEDS
  o : Wd r.o
  k : Wd r.k
  n : 1 ≤ r.n ∧ r.n < 1000
theorem deed_wd : ∀ z ∈ S_DEEDS, Wd z := fun z h => by
  have : z = "bring" ∨ z = "grind" ∨ z = "fetch" := by simpa [S_DEEDS] using h
  rcases this with rfl | rfl | rfl <;> exact ⟨by decide +kernel, by decide +kernel, by decide +kernel, by decide +kernel, by decide +kernel⟩
theorem num_wd {d : Int} (h : 0 ≤ d) (h2 : d < 1000) : Wd (sI d) := by
  have hl := sI_len h h2
  refine ⟨fun e => ?_, sI_free h (by omega), sI_free h (by omega), by omega, sI_ok h⟩
  rw [e] at hl
  exact absurd hl.1 (by decide +kernel)
theorem OkR.wds {r : Rw} (H : OkR r) : ∀ z ∈ wds r, Wd z := fun z h => by
  have h1 := H.d
  have h2 := H.n
  have : z = sI r.d ∨ z = r.s ∨ z = r.o ∨ z = r.k ∨ z = sI r.n := by simpa [Kk19.wds] using h
  rcases this with rfl | rfl | rfl | rfl | rfl
  · exact num_wd h1.1 h1.2
  · exact deed_wd _ H.s
  · exact H.o
  · exact H.k
  · exact num_wd (by omega) h2.2
theorem tl_sp : TL.tl (" " : Str) = [32] := by decide +kernel
theorem tl_nl : TL.tl ("\n" : Str) = [10] := by decide +kernel
theorem len_sp : (" " : Str).length = 1 := by decide +kernel
theorem len_nl : ("\n" : Str).length = 1 := by decide +kernel
theorem ins_sp {w : Str} (h : 32 ∉ TL.tl w) : opInS (.str " ") (.str w) = some (.bl false) := by
  have e : opInS (.str " ") (.str w) = some (.bl (decide (32 ∈ TL.tl w))) := by
    unfold opInS signS
    rfl
  rw [e, decide_eq_false h]
theorem ins_nl {w : Str} (h : 10 ∉ TL.tl w) : opInS (.str "\n") (.str w) = some (.bl false) := by
  have e : opInS (.str "\n") (.str w) = some (.bl (decide (10 ∈ TL.tl w))) := by
    unfold opInS signS
    rfl
  rw [e, decide_eq_false h]
theorem txt_len {r : Rw} (H : OkR r) : (txt r).length ≤ 1000 := by
  have h := StrLaws.join_length_le " " (wds r)
  have e : txt r = Str.join " " (wds r) := TL.join_eq _ _
  rw [e]
  refine Nat.le_trans h ?_
  have h1 := (H.wds _ (by simp [wds] : sI r.d ∈ wds r)).len
  have h2 := (H.wds _ (by simp [wds] : r.s ∈ wds r)).len
  have h3 := (H.wds _ (by simp [wds] : r.o ∈ wds r)).len
  have h4 := (H.wds _ (by simp [wds] : r.k ∈ wds r)).len
  have h5 := (H.wds _ (by simp [wds] : sI r.n ∈ wds r)).len
  simp only [wds, List.map_cons, List.map_nil, List.sum_cons, List.sum_nil, List.length_cons, List.length_nil, len_sp]
  omega
theorem split_txt {r : Rw} (H : OkR r) : splitO (.str (txt r)) [.str " "] = some (.lst [.str (sI r.d), .str r.s, .str r.o, .str r.k, .str (sI r.n)]) := by
  have h := txt_len H
  rw [splitO_s ⟨by decide +kernel, by omega⟩]
  have e : Txt.split (txt r) " " = wds r := TL.split_join tl_sp (by decide +kernel) (by simp [wds]) fun p hp => (H.wds p hp).sp
  rw [e]
  rfl
theorem join_txt {r : Rw} (H : OkR r) : joinO (.str " ") [.lst [.str (sI r.d), .str r.s, .str r.o, .str r.k, .str (sI r.n)]] = some (.str (txt r)) := by
  have h1 := (H.wds _ (by simp [wds] : sI r.d ∈ wds r)).len
  have h2 := (H.wds _ (by simp [wds] : r.s ∈ wds r)).len
  have h3 := (H.wds _ (by simp [wds] : r.o ∈ wds r)).len
  have h4 := (H.wds _ (by simp [wds] : r.k ∈ wds r)).len
  have h5 := (H.wds _ (by simp [wds] : sI r.n ∈ wds r)).len
  refine joinO_s (ys := wds r) ?_
  simp only [wds, List.map_cons, List.map_nil, List.sum_cons, List.sum_nil, List.length_cons, List.length_nil, len_sp]
  omega
theorem init_ok (s : DS) {r : Rw} (H : OkR r) : m_Line_init [.int r.d, .str r.s, .str r.o, .str r.k, .int r.n] s = .ok (rwD r) s := by
  obtain ⟨hd, hs, ho, hk, hn⟩ := H
  have c1 : ¬ r.d < 0 := by omega
  have c2 : ¬ r.n < 1 := by omega
  have c3 : decide (r.s ∈ S_DEEDS) = true := decide_eq_true hs
  have e1 := ins_sp ho.sp
  have e2 := ins_nl ho.nl
  have e3 := ins_sp hk.sp
  have e4 := ins_nl hk.nl
  have e5 := ho.ne
  have e6 := hk.ne
  unfold m_Line_init B_Line_init
  simp_arith [isStr_s, opAdd_ss, lenO_s, strO_s, c1, c2, c3]
  have a : ([D.str r.o, D.str r.k] : List D) = [r.o, r.k].map D.str := rfl
  rw [a]
  rw [DR.anym_ (fun z hz => ⟨_, rfl, by (
    have q : Wd z := by
      have : z = r.o ∨ z = r.k := by simpa using hz
      rcases this with rfl | rfl
      · exact ho
      · exact hk
    have f1 := ins_sp q.sp
    have f2 := ins_nl q.nl
    have f3 : (z == "") = false := by rw [str_beq]; exact decide_eq_false q.ne
    have f4 : opEq (.str z) (.str "") = some (.bl false) := by rw [opEq_ssX q.ok (by decide +kernel), f3]
    simp_arith [isStr_s, opAdd_ss, lenO_s, strO_s, f1, f2, f4]; try rfl)⟩)]
  have f : ([r.o, r.k].any fun _ => false) = false := rfl
  simp_arith [isStr_s, opAdd_ss, lenO_s, strO_s, f]
theorem said_ok (s : DS) {r : Rw} (H : OkR r) : m_Line_said [rwD r] s = .ok (.str (txt r)) s := by
  have h1 := H.d
  have h2 := H.n
  have e1 := sI_str h1.1 h1.2
  have e2 := sI_str (show 0 ≤ r.n by omega) h2.2
  have e3 := join_txt H
  unfold m_Line_said B_Line_said
  simp_arith [isStr_s, opAdd_ss, lenO_s, strO_s, e1, e2, e3]
theorem OkR.sok {r : Rw} (H : OkR r) : PyData.strOk (txt r) = true := strOk_join (by decide +kernel) fun z hz => (H.wds z hz).ok
theorem dig_in {c : Nat} (h : 48 ≤ c ∧ c ≤ 57) : opNinS (.str ⟨#[c]⟩) (.str "0123456789") = some (.bl false) := by
  have e : opNinS (.str ⟨#[c]⟩) (.str "0123456789") = some (.bl (!decide (c ∈ TL.tl ("0123456789" : Str)))) := rfl
  have e2 : TL.tl ("0123456789" : Str) = [48, 49, 50, 51, 52, 53, 54, 55, 56, 57] := by decide +kernel
  rw [e, e2, decide_eq_true (show c ∈ [48, 49, 50, 51, 52, 53, 54, 55, 56, 57] by simp; omega)]
  rfl
theorem read_ok (s : DS) {r : Rw} (H : OkR r) : m_read_row [.str (txt r)] s = .ok (rwD r) s := by
  have h1 := H.d
  have h2 := H.n
  have l1 := sI_len h1.1 h1.2
  have l2 := sI_len (show 0 ≤ r.n by omega) h2.2
  have e0 := split_txt H
  have e1 := sI_int h1.1 h1.2
  have e2 := sI_int (show 0 ≤ r.n by omega) h2.2
  have e3 := init_ok s H
  have e4 := said_ok s H
  have e5 : opNe (.str (txt r)) (.str (txt r)) = some (.bl false) := by rw [opNe_ssX H.sok H.sok, str_beq, decide_eq_true rfl]; rfl
  have e6 : opAdd (.str (sI r.d)) (.str (sI r.n)) = some (.str (sI r.d ++ sI r.n)) := opAdd_ss (by omega)
  unfold m_read_row B_read_row
  simp_arith [isStr_s, opAdd_ss, lenO_s, strO_s, e0]
  have a : ([D.str (sI r.d), D.str (sI r.n)] : List D) = [sI r.d, sI r.n].map D.str := rfl
  rw [a]
  rw [DR.anym_ (fun z hz => ⟨_, rfl, by (
    have q : 1 ≤ z.length ∧ z.length ≤ 3 := by
      have : z = sI r.d ∨ z = sI r.n := by simpa using hz
      rcases this with rfl | rfl
      · exact l1
      · exact l2
    have q1 : (1 : Int) ≤ ((z.length : Nat) : Int) := by omega
    have q2 : ((z.length : Nat) : Int) ≤ 4 := by omega
    have q3 : lenO [.str z] = some (.int (z.length : Nat)) := lenO_s (by omega)
    simp_arith [isStr_s, opAdd_ss, lenO_s, strO_s, q1, q2, q3]; try rfl)⟩)]
  have f : ([sI r.d, sI r.n].any fun _ => false) = false := rfl
  simp_arith [isStr_s, opAdd_ss, lenO_s, strO_s, f, e6]
  rw [DR.anym_ (fun c hc => ⟨_, rfl, by (
    have q : c ∈ TL.tl (sI r.d ++ sI r.n) := hc
    have q2 : 48 ≤ c ∧ c ≤ 57 := by
      rw [TL.tl_append] at q
      rcases List.mem_append.mp q with h | h
      · exact sI_dig h1.1 h
      · exact sI_dig (by omega) h
    have q3 := dig_in q2
    simp_arith [isStr_s, opAdd_ss, lenO_s, strO_s, q3]; try rfl)⟩)]
  have f2 : ((sI r.d ++ sI r.n).cps.toList.any fun _ => false) = false := by simp
  simp_arith [isStr_s, opAdd_ss, lenO_s, strO_s, f2, e1, e2, e3, e4, e5]
theorem bad_deed (s : DS) (z : Str) (h : decide (z ∈ S_DEEDS) = false) (d n : Int) (hd : ¬ d < 0) (o k : Str) : m_Line_init [.int d, .str z, .str o, .str k, .int n] s = .ex 1 [.int 0] s := by
  unfold m_Line_init B_Line_init
  simp_arith [isStr_s, opAdd_ss, lenO_s, strO_s, h, hd]
theorem bad_n (s : DS) (z : Str) (h : decide (z ∈ S_DEEDS) = true) (d : Int) (hd : ¬ d < 0) (o k : Str) : m_Line_init [.int d, .str z, .str o, .str k, .int 0] s = .ex 1 [.int 0] s := by
  unfold m_Line_init B_Line_init
  simp_arith [isStr_s, opAdd_ss, lenO_s, strO_s, h, hd]
def Bad (z : Str) : Prop := ∀ s, m_read_row [.str z] s = .ex 1 [.int 0] s
theorem last_ix {l : List D} {x : D} : atI (l ++ [x]) (-1) = some x := by
  unfold atI ixN
  simp
  rw [if_pos (by omega)]
  have e : (-1 + ((l.length : Int) + 1)).toNat = l.length := by omega
  show (l ++ [x])[(-1 + ((l.length : Int) + 1)).toNat]? = some x
  rw [e]
  simp
theorem read_to (z a b c d e : Str) (x y : Int) (h : splitO (.str z) [.str " "] = some (.lst [.str a, .str b, .str c, .str d, .str e])) (la : 1 ≤ a.length ∧ a.length ≤ 4) (le : 1 ≤ e.length ∧ e.length ≤ 4)
    (hg : ∀ ch ∈ TL.tl (a ++ e), 48 ≤ ch ∧ ch ≤ 57) (i1 : intSO [.str a] = some (.int x)) (i2 : intSO [.str e] = some (.int y)) (s : DS)
    (k : m_Line_init [.int x, .str b, .str c, .str d, .int y] s = .ex 1 [.int 0] s ∨ ∃ r : Rw, m_Line_init [.int x, .str b, .str c, .str d, .int y] s = .ok (rwD r) s ∧ OkR r ∧ opNe (.str (txt r)) (.str z) = some (.bl true)) : m_read_row [.str z] s = .ex 1 [.int 0] s := by
  have e6 : opAdd (.str a) (.str e) = some (.str (a ++ e)) := opAdd_ss (by omega)
  unfold m_read_row B_read_row
  simp_arith [isStr_s, opAdd_ss, lenO_s, strO_s, last_ix, h]
  have q : ([D.str a, D.str e] : List D) = [a, e].map D.str := rfl
  rw [q]
  rw [DR.anym_ (fun w hw => ⟨_, rfl, by (
    have q : 1 ≤ w.length ∧ w.length ≤ 4 := by
      have : w = a ∨ w = e := by simpa using hw
      rcases this with rfl | rfl
      · exact la
      · exact le
    have q1 : (1 : Int) ≤ ((w.length : Nat) : Int) := by omega
    have q2 : ((w.length : Nat) : Int) ≤ 4 := by omega
    have q3 : lenO [.str w] = some (.int (w.length : Nat)) := lenO_s (by omega)
    simp_arith [isStr_s, opAdd_ss, lenO_s, strO_s, last_ix, q1, q2, q3]; try rfl)⟩)]
  have f : ([a, e].any fun _ => false) = false := rfl
  simp_arith [isStr_s, opAdd_ss, lenO_s, strO_s, last_ix, f, e6]
  rw [DR.anym_ (fun c hc => ⟨_, rfl, by (
    have q3 := dig_in (hg c hc)
    simp_arith [isStr_s, opAdd_ss, lenO_s, strO_s, last_ix, q3]; try rfl)⟩)]
  have f2 : ((a ++ e).cps.toList.any fun _ => false) = false := by simp
  rcases k with k | ⟨r, k1, k2, k3⟩
  · simp_arith [isStr_s, opAdd_ss, lenO_s, strO_s, last_ix, f2, i1, i2, k]
  · have k4 := said_ok s k2
    simp_arith [isStr_s, opAdd_ss, lenO_s, strO_s, last_ix, f2, i1, i2, k1, k3, k4]
theorem ann_wd : Wd "ann" := ⟨by decide +kernel, by decide +kernel, by decide +kernel, by decide +kernel, by decide +kernel⟩
theorem rye_wd : Wd "rye" := ⟨by decide +kernel, by decide +kernel, by decide +kernel, by decide +kernel, by decide +kernel⟩
abbrev pgD (rows : List Rw) : D := .obj 1 [.tup (rows.map rwD)]
def sumOf (rows : List Rw) (a b c : Str) : Int := ((rows.filter fun r => decide (r.s = a ∧ r.o = b ∧ r.k = c)).map (·.n)).sum
def waitsR (rows : List Rw) (o k : Str) : Int := sumOf rows "bring" o k - sumOf rows "grind" o k
def readyR (rows : List Rw) (o k : Str) : Int := sumOf rows "grind" o k - sumOf rows "fetch" o k
theorem deref_get {s : DS} {p : Nat} {x : D} (h : s[p]? = some x) : deref s (.han p) = x := by
  show s.getD p .non = x
  rw [List.getD_eq_getElem?_getD, h]
  rfl
theorem tri_eq {a b c x y z : Str} (h1 : PyData.strOk a = true) (h2 : PyData.strOk b = true) (h3 : PyData.strOk c = true) (h4 : PyData.strOk x = true) (h5 : PyData.strOk y = true) (h6 : PyData.strOk z = true) :
    opEq (.tup [.str a, .str b, .str c]) (.tup [.str x, .str y, .str z]) = some (.bl (decide (a = x ∧ b = y ∧ c = z))) := by
  rw [opEq_tt (by simp [okN, okNL, h1, h2, h3]) (by simp [okN, okNL, h4, h5, h6])]
  simp only [eqBL_cc, eqBL_nn, eqB_ss]
  by_cases a1 : a = x <;> by_cases a2 : b = y <;> by_cases a3 : c = z <;> simp [a1, a2, a3, str_beq]
theorem sum_ok {s : DS} {p : Nat} {rows : List Rw} (hd : s[p]? = some (pgD rows)) (H : ∀ r ∈ rows, OkR r) {a b c : Str} (h1 : PyData.strOk a = true) (h2 : PyData.strOk b = true) (h3 : PyData.strOk c = true) : m_Pages_sum_of [.han p, .str a, .str b, .str c] s = .ok (.int (sumOf rows a b c)) s := by
  have d := deref_get hd
  unfold m_Pages_sum_of B_Pages_sum_of
  simp_arith [isStr_s, opAdd_ss, lenO_s, strO_s, last_ix, d]
  rw [DR.lcf_ (fun r hr => ⟨_, rfl, by (
    have q := H r hr
    have e := tri_eq (deed_wd _ q.s).ok q.o.ok q.k.ok h1 h2 h3
    simp_arith [isStr_s, opAdd_ss, lenO_s, strO_s, last_ix, e]; try rfl), fun _ => by (simp_arith [isStr_s, opAdd_ss, lenO_s, strO_s, last_ix]; try rfl)⟩)]
  simp_arith [isStr_s, opAdd_ss, lenO_s, strO_s, last_ix, sumOf]
theorem bring_ok : PyData.strOk "bring" = true := by decide +kernel
theorem grind_ok : PyData.strOk "grind" = true := by decide +kernel
theorem fetch_ok : PyData.strOk "fetch" = true := by decide +kernel
theorem waits_ok {s : DS} {p : Nat} {rows : List Rw} (hd : s[p]? = some (pgD rows)) (H : ∀ r ∈ rows, OkR r) {o k : Str} (h1 : PyData.strOk o = true) (h2 : PyData.strOk k = true) : m_Pages_waits [.han p, .str o, .str k] s = .ok (.int (waitsR rows o k)) s := by
  have d := deref_get hd
  have e1 := sum_ok hd H bring_ok h1 h2
  have e2 := sum_ok hd H grind_ok h1 h2
  unfold m_Pages_waits B_Pages_waits
  simp_arith [isStr_s, opAdd_ss, lenO_s, strO_s, last_ix, d, e1, e2, waitsR]
theorem ready_ok {s : DS} {p : Nat} {rows : List Rw} (hd : s[p]? = some (pgD rows)) (H : ∀ r ∈ rows, OkR r) {o k : Str} (h1 : PyData.strOk o = true) (h2 : PyData.strOk k = true) : m_Pages_ready [.han p, .str o, .str k] s = .ok (.int (readyR rows o k)) s := by
  have d := deref_get hd
  have e1 := sum_ok hd H grind_ok h1 h2
  have e2 := sum_ok hd H fetch_ok h1 h2
  unfold m_Pages_ready B_Pages_ready
  simp_arith [isStr_s, opAdd_ss, lenO_s, strO_s, last_ix, d, e1, e2, readyR]
def inHK (k : Nat) (r : F) : DL.R D := match r with
  | .nx _ s1 => .ok (.han k) s1
  | .ex c p _ s1 => .ex c p s1
  | _ => .bad
theorem inHD_eq {c n : Nat} {f : DL.Env → DS → F} {ds : List D} {s : DS} : inHD c n f ds s = inHK s.length (f (padE n (.v (.han s.length) :: ds.map .v)) (s ++ [.obj c []])) := rfl
theorem inHK_nx {k : Nat} {η : DL.Env} {s : DS} : inHK k (.nx η s) = .ok (.han k) s := rfl
theorem inHK_ex {k c : Nat} {p : List D} {η : DL.Env} {s : DS} : inHK k (.ex c p η s) = .ex c p s := rfl
theorem get_last {s : DS} {x : D} : (s ++ [x])[s.length]? = some x := by simp
theorem set_last {s : DS} {x y : D} : (s ++ [x]).set s.length y = s ++ [y] := by simp
theorem deref_last {s : DS} {x : D} : deref (s ++ [x]) (.han s.length) = x := deref_get get_last
def dayB (rows : List Rw) (r : Rw) : Bool := match rows.getLast? with
  | none => true
  | some l => decide (l.d ≤ r.d)
def addB (rows : List Rw) (r : Rw) : Bool := dayB rows r && (!(decide (r.s = "grind") && decide (waitsR rows r.o r.k < r.n)) && !(decide (r.s = "fetch") && decide (readyR rows r.o r.k < r.n)))
theorem eq_s {a b : Str} (h1 : PyData.strOk a = true) (h2 : PyData.strOk b = true) : opEq (.str a) (.str b) = some (.bl (decide (a = b))) := by rw [opEq_ssX h1 h2, str_beq]
theorem add_ok {s : DS} {p : Nat} {rows : List Rw} (hd : s[p]? = some (pgD rows)) (H : ∀ r ∈ rows, OkR r) (hl : rows.length ≤ 1000) {r : Rw} (Hr : OkR r) :
    m_Pages_add [.han p, rwD r] s = if addB rows r = true then .ok .non (s.set p (pgD (rows ++ [r]))) else .ex 1 [.int 0] s := by
  have d := deref_get hd
  have e1 := waits_ok hd H Hr.o.ok Hr.k.ok
  have e2 := ready_ok hd H Hr.o.ok Hr.k.ok
  have ds := (deed_wd _ Hr.s).ok
  have e3 := eq_s ds grind_ok
  have e4 := eq_s ds fetch_ok
  have fin : ∀ b1 : Bool, b1 = dayB rows r → (if b1 = true then (if (decide (r.s = "grind") && decide (waitsR rows r.o r.k < r.n)) = true then DL.R.ex 1 [.int 0] s else if (decide (r.s = "fetch") && decide (readyR rows r.o r.k < r.n)) = true then DL.R.ex 1 [.int 0] s else DL.R.ok D.non (s.set p (pgD (rows ++ [r])))) else DL.R.ex 1 [.int 0] s) = if addB rows r = true then DL.R.ok .non (s.set p (pgD (rows ++ [r]))) else .ex 1 [.int 0] s := by
    intro b1 h
    subst h
    unfold addB
    generalize (decide (r.s = "grind") && decide (waitsR rows r.o r.k < r.n)) = g1
    generalize (decide (r.s = "fetch") && decide (readyR rows r.o r.k < r.n)) = g2
    cases dayB rows r <;> cases g1 <;> cases g2 <;> rfl
  have e5 : opAdd (.tup (rows.map rwD)) (.tup [rwD r]) = some (.tup ((rows ++ [r]).map rwD)) := by
    rw [opAdd_tup (by rw [List.length_map]; show rows.length + 1 ≤ _; omega), List.map_append]
    rfl
  have tail : ∀ b1 : Bool, b1 = dayB rows r → ∀ f : DL.Env → DS → DL.R Bool, f [.v (.han p), .v (rwD r)] s = .ok (!b1) s →
      fnD 2 (seqB (ifB f (raiseR 1 (consA (cD (.int 0)) (nilA))) (nextB)) (seqB (ifB (andT (tstD (bopD opEq (fldD 0 1 (vB 1)) (cD (.str "grind")))) (tstD (bopD opGt (fldD 0 4 (vB 1)) (methD 1 (gateD 3 m_Pages_waits) (vD 0) (consA (fldD 0 2 (vB 1)) (consA (fldD 0 3 (vB 1)) (nilA))))))) (raiseR 1 (consA (cD (.int 0)) (nilA))) (nextB)) (seqB (ifB (andT (tstD (bopD opEq (fldD 0 1 (vB 1)) (cD (.str "fetch")))) (tstD (bopD opGt (fldD 0 4 (vB 1)) (methD 1 (gateD 3 m_Pages_ready) (vD 0) (consA (fldD 0 2 (vB 1)) (consA (fldD 0 3 (vB 1)) (nilA))))))) (raiseR 1 (consA (cD (.int 0)) (nilA))) (nextB)) (fldB 1 0 (bopD opAdd (fldD 1 0 (vB 0)) (tupD (consA (vD 1) (nilA)))) (plV 0))))) [.han p, rwD r] s = if addB rows r = true then DL.R.ok .non (s.set p (pgD (rows ++ [r]))) else .ex 1 [.int 0] s := by
    intro b1 hb f hf
    rw [← fin b1 hb]
    cases b1 with
    | false => simp_arith [isStr_s, opAdd_ss, lenO_s, strO_s, last_ix, inHD_eq, inHK_nx, inHK_ex, get_last, set_last, deref_last, tryX_eq, tryXK_nx, tryXK_rt, tryXK_ex, tryAs_eq, tryAsK_nx, tryAsK_rt, tryAsK_ex, hf]
    | true =>
      by_cases c1 : r.s = "grind"
      · by_cases c2 : waitsR rows r.o r.k < r.n
        · simp_arith [isStr_s, opAdd_ss, lenO_s, strO_s, last_ix, inHD_eq, inHK_nx, inHK_ex, get_last, set_last, deref_last, tryX_eq, tryXK_nx, tryXK_rt, tryXK_ex, tryAs_eq, tryAsK_nx, tryAsK_rt, tryAsK_ex, hf, d, e3, c1, e1, c2]
        · have c3 : ¬ ("grind" : Str) = "fetch" := by decide +kernel
          have e4' : opEq (.str "grind") (.str "fetch") = some (.bl false) := by rw [eq_s grind_ok fetch_ok, decide_eq_false c3]
          have e3' : opEq (.str "grind") (.str "grind") = some (.bl true) := by rw [eq_s grind_ok grind_ok, decide_eq_true rfl]
          simp_arith [isStr_s, opAdd_ss, lenO_s, strO_s, last_ix, inHD_eq, inHK_nx, inHK_ex, get_last, set_last, deref_last, tryX_eq, tryXK_nx, tryXK_rt, tryXK_ex, tryAs_eq, tryAsK_nx, tryAsK_rt, tryAsK_ex, hf, d, c1, e3', e4', e1, c2, c3, e5, hd]
      · by_cases c4 : r.s = "fetch"
        · have c3 : ¬ ("fetch" : Str) = "grind" := by decide +kernel
          have e4' : opEq (.str "fetch") (.str "grind") = some (.bl false) := by rw [eq_s fetch_ok grind_ok, decide_eq_false c3]
          have e3' : opEq (.str "fetch") (.str "fetch") = some (.bl true) := by rw [eq_s fetch_ok fetch_ok, decide_eq_true rfl]
          by_cases c2 : readyR rows r.o r.k < r.n
          · simp_arith [isStr_s, opAdd_ss, lenO_s, strO_s, last_ix, inHD_eq, inHK_nx, inHK_ex, get_last, set_last, deref_last, tryX_eq, tryXK_nx, tryXK_rt, tryXK_ex, tryAs_eq, tryAsK_nx, tryAsK_rt, tryAsK_ex, hf, d, c4, e3', e4', e2, c2, c3]
          · simp_arith [isStr_s, opAdd_ss, lenO_s, strO_s, last_ix, inHD_eq, inHK_nx, inHK_ex, get_last, set_last, deref_last, tryX_eq, tryXK_nx, tryXK_rt, tryXK_ex, tryAs_eq, tryAsK_nx, tryAsK_rt, tryAsK_ex, hf, d, c4, e3', e4', e2, c2, c3, e5, hd]
        · simp_arith [isStr_s, opAdd_ss, lenO_s, strO_s, last_ix, inHD_eq, inHK_nx, inHK_ex, get_last, set_last, deref_last, tryX_eq, tryXK_nx, tryXK_rt, tryXK_ex, tryAs_eq, tryAsK_nx, tryAsK_rt, tryAsK_ex, hf, d, e3, e4, c1, c4, e5, hd]
  unfold m_Pages_add B_Pages_add
  rcases List.eq_nil_or_concat rows with h | ⟨pre, l, h⟩
  · refine tail true (by rw [h]; rfl) _ ?_
    subst h
    simp_arith [isStr_s, opAdd_ss, lenO_s, strO_s, last_ix, inHD_eq, inHK_nx, inHK_ex, get_last, set_last, deref_last, tryX_eq, tryXK_nx, tryXK_rt, tryXK_ex, tryAs_eq, tryAsK_nx, tryAsK_rt, tryAsK_ex, d]
  · have h : rows = pre ++ [l] := by rw [h, List.concat_eq_append]
    have hb : dayB rows r = decide (l.d ≤ r.d) := by
      unfold dayB
      rw [h, List.getLast?_append]
      rfl
    refine tail (decide (l.d ≤ r.d)) hb.symm _ ?_
    have ix : atI (rows.map rwD) (-1) = some (rwD l) := by
      rw [h, List.map_append]
      exact last_ix
    have ne : (rows.map rwD).isEmpty = false := by rw [h]; simp
    by_cases c : l.d ≤ r.d
    · have c2 : ¬ r.d < l.d := by omega
      simp_arith [isStr_s, opAdd_ss, lenO_s, strO_s, last_ix, inHD_eq, inHK_nx, inHK_ex, get_last, set_last, deref_last, tryX_eq, tryXK_nx, tryXK_rt, tryXK_ex, tryAs_eq, tryAsK_nx, tryAsK_rt, tryAsK_ex, d, ix, ne, c, c2]
    · have c2 : r.d < l.d := by omega
      simp_arith [isStr_s, opAdd_ss, lenO_s, strO_s, last_ix, inHD_eq, inHK_nx, inHK_ex, get_last, set_last, deref_last, tryX_eq, tryXK_nx, tryXK_rt, tryXK_ex, tryAs_eq, tryAsK_nx, tryAsK_rt, tryAsK_ex, d, ix, ne, c, c2]
abbrev gtP : D → DL.Env → Option DL.Env := gT (gsC (gN 2) (gsC (gN 3) (gsN)))
theorem turn_ok {s : DS} {pre : List Rw} (H : ∀ r ∈ pre, OkR r) (hl : pre.length ≤ 1000) {r : Rw} (Hr : OkR r) (ha : addB pre r = true) (k : Int) :
    turnF gtP L_Pages_init_1 (.tup [.int k, .str (txt r)]) (E_Pages_init_1 (.v (.han s.length))) (s ++ [pgD pre]) = .nx (E_Pages_init_1 (.v (.han s.length))) (s ++ [pgD (pre ++ [r])]) := by
  have e1 := read_ok (s ++ [pgD pre]) Hr
  have e2 := add_ok (s := s ++ [pgD pre]) get_last H hl Hr
  rw [if_pos ha, set_last] at e2
  unfold L_Pages_init_1
  simp_arith [isStr_s, opAdd_ss, lenO_s, strO_s, last_ix, inHD_eq, inHK_nx, inHK_ex, get_last, set_last, deref_last, tryX_eq, tryXK_nx, tryXK_rt, tryXK_ex, tryAs_eq, tryAsK_nx, tryAsK_rt, tryAsK_ex, e1, e2]
theorem turn_no {s : DS} {pre : List Rw} (H : ∀ r ∈ pre, OkR r) (hl : pre.length ≤ 1000) {z : Str} (hz : Bad z ∨ ∃ r, z = txt r ∧ OkR r ∧ addB pre r = false) (k : Int) :
    ∃ η, turnF gtP L_Pages_init_1 (.tup [.int k, .str z]) (E_Pages_init_1 (.v (.han s.length))) (s ++ [pgD pre]) = .ex 1 [.int k] η (s ++ [pgD pre]) := by
  rcases hz with hz | ⟨r, rfl, Hr, ha⟩
  · have e1 := hz (s ++ [pgD pre])
    refine ⟨[.v (.han s.length), .no, .v (.int k), .v (.str z)], ?_⟩
    unfold L_Pages_init_1
    simp_arith [isStr_s, opAdd_ss, lenO_s, strO_s, last_ix, inHD_eq, inHK_nx, inHK_ex, get_last, set_last, deref_last, tryX_eq, tryXK_nx, tryXK_rt, tryXK_ex, tryAs_eq, tryAsK_nx, tryAsK_rt, tryAsK_ex, e1]
  · have e1 := read_ok (s ++ [pgD pre]) Hr
    have e2 := add_ok (s := s ++ [pgD pre]) get_last H hl Hr
    rw [ha, if_neg Bool.false_ne_true] at e2
    refine ⟨[.v (.han s.length), .no, .v (.int k), .v (.str (txt r))], ?_⟩
    unfold L_Pages_init_1
    simp_arith [isStr_s, opAdd_ss, lenO_s, strO_s, last_ix, inHD_eq, inHK_nx, inHK_ex, get_last, set_last, deref_last, tryX_eq, tryXK_nx, tryXK_rt, tryXK_ex, tryAs_eq, tryAsK_nx, tryAsK_rt, tryAsK_ex, e1, e2]
def Good (rows : List Rw) : Prop := ∀ pre r post, rows = pre ++ r :: post → addB pre r = true
theorem loop_go {s : DS} : ∀ (rows pre : List Rw) (rest : List D), (∀ r ∈ pre ++ rows, OkR r) → (pre ++ rows).length ≤ 1000 → Good (pre ++ rows) →
    forF gtP L_Pages_init_1 (enumL (pre.length : Nat) (rows.map (fun r => D.str (txt r)) ++ rest)) (E_Pages_init_1 (.v (.han s.length))) (s ++ [pgD pre]) = forF gtP L_Pages_init_1 (enumL ((pre ++ rows).length : Nat) rest) (E_Pages_init_1 (.v (.han s.length))) (s ++ [pgD (pre ++ rows)])
  | [], pre, rest, _, _, _ => by rw [List.append_nil]; rfl
  | r :: rows, pre, rest, H, hl, g => by
    have e : pre ++ r :: rows = (pre ++ [r]) ++ rows := by simp
    have ih := loop_go (s := s) rows (pre ++ [r]) rest (by rw [← e]; exact H) (by rw [← e]; exact hl) (by rw [← e]; exact g)
    have hp : pre.length ≤ 1000 := by rw [List.length_append] at hl; omega
    have e2 : enumL (pre.length : Nat) ((r :: rows).map (fun r => D.str (txt r)) ++ rest) = .tup [.int (pre.length : Nat), .str (txt r)] :: enumL ((pre ++ [r]).length : Nat) (rows.map (fun r => D.str (txt r)) ++ rest) := by
      rw [List.map_cons, List.cons_append, enumL, List.length_append]
      rfl
    rw [e2, forF_cons2, turn_ok (fun z hz => H z (List.mem_append_left _ hz)) hp (H r (by simp)) (g pre r rows rfl), e, ← ih]
    rfl
structure OkL (ls : List Str) : Prop where
  nl : ∀ z ∈ ls, 10 ∉ TL.tl z
  ok : ∀ z ∈ ls, PyData.strOk z = true
  len : ∀ z ∈ ls, z.length ≤ 1000
  ne : ls ≠ []
  few : ls.length ≤ 1000
def tx (ls : List Str) : Str := Txt.join "\n" ls
theorem sum_le {ls : List Str} {m : Nat} (h : ∀ z ∈ ls, z.length ≤ m) : (ls.map (·.length)).sum ≤ ls.length * m := by
  induction ls with
  | nil => simp
  | cons a l ih =>
    have h1 := h a List.mem_cons_self
    have h2 := ih fun z hz => h z (List.mem_cons_of_mem _ hz)
    rw [List.map_cons, List.sum_cons, List.length_cons, Nat.succ_mul]
    omega
theorem tx_len {ls : List Str} (h : ∀ z ∈ ls, z.length ≤ 1000) : (tx ls).length ≤ ls.length * 1001 := by
  have e : tx ls = Str.join "\n" ls := TL.join_eq _ _
  have h1 := StrLaws.join_length_le "\n" ls
  have h2 := sum_le h
  rw [len_nl] at h1
  rw [e]
  omega
theorem split_tx {ls : List Str} (H : OkL ls) : splitO (.str (tx ls)) [.str "\n"] = some (.lst (ls.map D.str)) := by
  have h := tx_len H.len
  have h2 := H.few
  rw [splitO_s ⟨by decide +kernel, by omega⟩]
  have e : Txt.split (tx ls) "\n" = ls := TL.split_join tl_nl (by decide +kernel) H.ne fun p hp => H.nl p hp
  rw [e]
theorem join_tx {ls : List Str} (h : ∀ z ∈ ls, z.length ≤ 1000) (h2 : ls.length ≤ 1000) : joinO (.str "\n") [.lst (ls.map D.str)] = some (.str (tx ls)) := by
  refine joinO_s (ys := ls) ?_
  have h3 := sum_le h
  rw [len_nl]
  omega
theorem tx_ok {ls : List Str} (H : ∀ z ∈ ls, PyData.strOk z = true) : PyData.strOk (tx ls) = true := strOk_join (by decide +kernel) H
theorem join_cons_len (a x : Str) (l : List Str) : x.length ≤ (Str.join a (x :: l)).length := by
  cases l with
  | nil => exact Nat.le_refl _
  | cons y l =>
    show x.length ≤ (x ++ a ++ Str.join a (y :: l)).length
    rw [Str.length_append, Str.length_append]
    omega
theorem tx_ne {x : Str} {l : List Str} (h : x ≠ "" ∨ l ≠ []) : tx (x :: l) ≠ "" := by
  intro e
  have e1 : tx (x :: l) = Str.join "\n" (x :: l) := TL.join_eq _ _
  rw [e1] at e
  have l0 : (("" : Str)).length = 0 := by decide +kernel
  have h2 : (Str.join "\n" (x :: l)).length = 0 := by rw [e]; exact l0
  rcases h with h | h
  · have h1 := join_cons_len "\n" x l
    apply h
    have h3 : TL.tl x = [] := List.length_eq_zero_iff.mp (by rw [← tl_len]; omega)
    have h4 : TL.tl ("" : Str) = [] := by decide +kernel
    exact TL.ext_tl (h3.trans h4.symm)
  · cases l with
    | nil => exact h rfl
    | cons y l =>
      have e3 : Str.join "\n" (x :: y :: l) = x ++ "\n" ++ Str.join "\n" (y :: l) := rfl
      rw [e3, Str.length_append, Str.length_append, len_nl] at h2
      omega
theorem txt_nl {r : Rw} (H : OkR r) : 10 ∉ TL.tl (txt r) := by
  have key : ∀ l : List Str, (∀ z ∈ l, 10 ∉ TL.tl z) → 10 ∉ TL.tl (Str.join " " l) := by
    intro l
    induction l with
    | nil => intro _; show 10 ∉ TL.tl Str.empty; decide +kernel
    | cons x l ih =>
      intro h
      cases l with
      | nil => exact h x List.mem_cons_self
      | cons y l =>
        show 10 ∉ TL.tl (x ++ " " ++ Str.join " " (y :: l))
        rw [TL.tl_append, TL.tl_append, List.mem_append, List.mem_append, tl_sp]
        rintro ((h1 | h1) | h1)
        · exact h x List.mem_cons_self h1
        · simp at h1
        · exact ih (fun z hz => h z (List.mem_cons_of_mem _ hz)) h1
  have e : txt r = Str.join " " (wds r) := TL.join_eq _ _
  rw [e]
  exact key _ fun z hz => (H.wds z hz).nl
theorem txt_ne {r : Rw} (H : OkR r) : txt r ≠ "" := by
  have h1 := H.d
  have l := sI_len h1.1 h1.2
  intro e
  have e1 : txt r = Str.join " " (wds r) := TL.join_eq _ _
  have h2 := join_cons_len " " (sI r.d) [r.s, r.o, r.k, sI r.n]
  have h3 : (Str.join " " (wds r)).length = 0 := by
    rw [← e1, e]
    decide +kernel
  have h4 : (sI r.d).length ≤ (Str.join " " (wds r)).length := h2
  omega
theorem okL_rows {rows : List Rw} (H : ∀ r ∈ rows, OkR r) (hl : rows.length ≤ 1000) (hn : rows ≠ []) : OkL (rows.map txt) := by
  refine ⟨fun z hz => ?_, fun z hz => ?_, fun z hz => ?_, by simpa using hn, by rw [List.length_map]; exact hl⟩ <;> obtain ⟨r, hr, rfl⟩ := List.mem_map.mp hz
  · exact txt_nl (H r hr)
  · exact (H r hr).sok
  · exact txt_len (H r hr)
theorem loop_nil (k : Int) (η : DL.Env) (s : DS) : forF gtP L_Pages_init_1 (enumL k []) η s = .nx η s := by
  unfold enumL
  simp_arith [isStr_s, opAdd_ss, lenO_s, strO_s, last_ix, inHD_eq, inHK_nx, inHK_ex, get_last, set_last, deref_last, tryX_eq, tryXK_nx, tryXK_rt, tryXK_ex, tryAs_eq, tryAsK_nx, tryAsK_rt, tryAsK_ex]
theorem pages_lines (s : DS) {ls : List Str} (L : OkL ls) (h0 : tx ls ≠ "") : m_Pages_init [.str (tx ls)] s = inHK s.length ((forF gtP L_Pages_init_1 (enumL 0 (ls.map D.str)) (E_Pages_init_1 (.v (.han s.length))) (s ++ [pgD []])).wip [true, false, false, false]) := by
  have e1 := split_tx L
  have e2 : opEq (.str (tx ls)) (.str "") = some (.bl false) := by rw [eq_s (tx_ok L.ok) (by decide +kernel), decide_eq_false h0]
  unfold m_Pages_init B_Pages_init S_Pages_init_1
  simp_arith [isStr_s, opAdd_ss, lenO_s, strO_s, last_ix, inHD_eq, inHK_nx, inHK_ex, get_last, set_last, deref_last, tryX_eq, tryXK_nx, tryXK_rt, tryXK_ex, tryAs_eq, tryAsK_nx, tryAsK_rt, tryAsK_ex, e1, e2]
  rfl
theorem pages_none (s : DS) : m_Pages_init [.str ""] s = .ok (.han s.length) (s ++ [pgD []]) := by
  have e2 : opEq (.str "") (.str "") = some (.bl true) := by rw [eq_s (by decide +kernel) (by decide +kernel), decide_eq_true rfl]
  have e3 : forF (gT (gsC (gN 2) (gsC (gN 3) (gsN)))) L_Pages_init_1 (enumL 0 []) [.v (.han s.length), .no, .no, .no] (s ++ [.obj 1 [.tup []]]) = .nx [.v (.han s.length), .no, .no, .no] (s ++ [.obj 1 [.tup []]]) := loop_nil 0 _ _
  unfold m_Pages_init B_Pages_init S_Pages_init_1
  simp_arith [isStr_s, opAdd_ss, lenO_s, strO_s, last_ix, inHD_eq, inHK_nx, inHK_ex, get_last, set_last, deref_last, tryX_eq, tryXK_nx, tryXK_rt, tryXK_ex, tryAs_eq, tryAsK_nx, tryAsK_rt, tryAsK_ex, e2, e3]
  rfl
theorem tx_nil : tx [] = "" := by decide +kernel
theorem pages_ok (s : DS) {rows : List Rw} (H : ∀ r ∈ rows, OkR r) (hl : rows.length ≤ 1000) (g : Good rows) : m_Pages_init [.str (tx (rows.map txt))] s = .ok (.han s.length) (s ++ [pgD rows]) := by
  by_cases hn : rows = []
  · subst hn
    rw [List.map_nil, tx_nil]
    exact pages_none s
  · have L := okL_rows H hl hn
    have h0 : tx (rows.map txt) ≠ "" := by
      cases rows with
      | nil => exact absurd rfl hn
      | cons r rows => exact tx_ne (.inl (txt_ne (H r List.mem_cons_self)))
    have e := loop_go (s := s) rows [] [] (by simpa using H) (by simpa using hl) (by simpa using g)
    rw [List.append_nil, List.nil_append, loop_nil] at e
    have e2 : ((([] : List Rw).length : Nat) : Int) = 0 := rfl
    rw [e2] at e
    rw [pages_lines s L h0, List.map_map]
    have e3 : (rows.map fun r => D.str (txt r)) = rows.map (D.str ∘ txt) := rfl
    rw [← e3, e]
    rfl
theorem pages_bad (s : DS) {pre : List Rw} {z : Str} {post : List Str} (H : ∀ r ∈ pre, OkR r) (g : Good pre) (L : OkL (pre.map txt ++ z :: post)) (h0 : z ≠ "" ∨ post ≠ [] ∨ pre ≠ []) (hz : Bad z ∨ ∃ r, z = txt r ∧ OkR r ∧ addB pre r = false) :
    m_Pages_init [.str (tx (pre.map txt ++ z :: post))] s = .ex 1 [.int (pre.length : Nat)] (s ++ [pgD pre]) := by
  have hl : pre.length ≤ 1000 := by
    have := L.few
    rw [List.length_append, List.length_map] at this
    omega
  have h0 : tx (pre.map txt ++ z :: post) ≠ "" := by
    cases pre with
    | nil => exact tx_ne (by simpa using h0)
    | cons r pre => exact tx_ne (.inl (txt_ne (H r List.mem_cons_self)))
  have e := loop_go (s := s) pre [] (.str z :: post.map D.str) (by simpa using H) (by simpa using hl) (by simpa using g)
  obtain ⟨η, e4⟩ := turn_no (s := s) H hl hz (pre.length : Nat)
  rw [List.nil_append, enumL, forF_cons2, e4] at e
  have e2 : ((([] : List Rw).length : Nat) : Int) = 0 := rfl
  rw [e2] at e
  rw [pages_lines s L h0, List.map_append, List.map_map, List.map_cons]
  have e3 : (pre.map fun r => D.str (txt r)) = pre.map (D.str ∘ txt) := rfl
  rw [← e3, e]
  rfl
theorem psaid_ok {s : DS} {p : Nat} {rows : List Rw} (hd : s[p]? = some (pgD rows)) (H : ∀ r ∈ rows, OkR r) (hl : rows.length ≤ 1000) : m_Pages_said [.han p] s = .ok (.str (tx (rows.map txt))) s := by
  have d := deref_get hd
  have e := join_tx (ls := rows.map txt) (fun z hz => by
    obtain ⟨r, hr, rfl⟩ := List.mem_map.mp hz
    exact txt_len (H r hr)) (by rw [List.length_map]; exact hl)
  rw [List.map_map] at e
  have e3 : (rows.map fun r => D.str (txt r)) = rows.map (D.str ∘ txt) := rfl
  rw [← e3] at e
  unfold m_Pages_said B_Pages_said
  simp_arith [isStr_s, opAdd_ss, lenO_s, strO_s, last_ix, inHD_eq, inHK_nx, inHK_ex, get_last, set_last, deref_last, tryX_eq, tryXK_nx, tryXK_rt, tryXK_ex, tryAs_eq, tryAsK_nx, tryAsK_rt, tryAsK_ex, d]
  rw [DR.lcm_ (fun r hr => ⟨_, rfl, by (
    have q := said_ok s (H r hr)
    simp_arith [isStr_s, opAdd_ss, lenO_s, strO_s, last_ix, inHD_eq, inHK_nx, inHK_ex, get_last, set_last, deref_last, tryX_eq, tryXK_nx, tryXK_rt, tryXK_ex, tryAs_eq, tryAsK_nx, tryAsK_rt, tryAsK_ex, q]; try rfl)⟩)]
  simp_arith [isStr_s, opAdd_ss, lenO_s, strO_s, last_ix, inHD_eq, inHK_nx, inHK_ex, get_last, set_last, deref_last, tryX_eq, tryXK_nx, tryXK_rt, tryXK_ex, tryAs_eq, tryAsK_nx, tryAsK_rt, tryAsK_ex, e]
theorem good_pre {rows : List Rw} {l : Rw} (g : Good (rows ++ [l])) : Good rows := fun pre r post e => g pre r (post ++ [l]) (by rw [e]; simp)
theorem cut_last {l : List D} {x : D} : cutD (l ++ [x]) none (some (-1)) = l := by
  have e1 : HT.sIx (l ++ [x]).length 0 none = 0 := rfl
  have e2 : HT.sIx (l ++ [x]).length (l ++ [x]).length (some (-1)) = l.length := by
    rw [List.length_append]
    show HT.sIx (l.length + 1) (l.length + 1) (some (-1)) = l.length
    unfold HT.sIx
    simp
    try omega
  unfold cutD
  rw [e1, e2]
  simp
theorem wlast_ok {s : DS} {p : Nat} {rows : List Rw} {l : Rw} (hd : s[p]? = some (pgD (rows ++ [l]))) (H : ∀ r ∈ rows ++ [l], OkR r) (hl : rows.length < 1000) (g : Good (rows ++ [l])) : m_Pages_without_last [.han p] s = .ok (.han s.length) (s ++ [pgD rows]) := by
  have d := deref_get hd
  have H2 : ∀ r ∈ rows, OkR r := fun r hr => H r (List.mem_append_left _ hr)
  have e := join_tx (ls := rows.map txt) (fun z hz => by
    obtain ⟨r, hr, rfl⟩ := List.mem_map.mp hz
    exact txt_len (H2 r hr)) (by rw [List.length_map]; omega)
  rw [List.map_map] at e
  have e3 : (rows.map fun r => D.str (txt r)) = rows.map (D.str ∘ txt) := rfl
  rw [← e3] at e
  have e4 := pages_ok s H2 (by omega) (good_pre g)
  have ne : ((rows ++ [l]).map rwD).isEmpty = false := by simp
  have ct : opCut (.tup ((rows ++ [l]).map rwD)) none (some (-1)) = some (.tup (rows.map rwD)) := by
    show some (D.tup (cutD ((rows ++ [l]).map rwD) none (some (-1)))) = _
    rw [List.map_append]
    show some (D.tup (cutD (rows.map rwD ++ [rwD l]) none (some (-1)))) = _
    rw [cut_last]
  unfold m_Pages_without_last B_Pages_without_last
  simp_arith [isStr_s, opAdd_ss, lenO_s, strO_s, last_ix, inHD_eq, inHK_nx, inHK_ex, get_last, set_last, deref_last, tryX_eq, tryXK_nx, tryXK_rt, tryXK_ex, tryAs_eq, tryAsK_nx, tryAsK_rt, tryAsK_ex, d, ne, ct]
  rw [DR.lcm_ (fun r hr => ⟨_, rfl, by (
    have q := said_ok s (H2 r hr)
    simp_arith [isStr_s, opAdd_ss, lenO_s, strO_s, last_ix, inHD_eq, inHK_nx, inHK_ex, get_last, set_last, deref_last, tryX_eq, tryXK_nx, tryXK_rt, tryXK_ex, tryAs_eq, tryAsK_nx, tryAsK_rt, tryAsK_ex, q]; try rfl)⟩)]
  simp_arith [isStr_s, opAdd_ss, lenO_s, strO_s, last_ix, inHD_eq, inHK_nx, inHK_ex, get_last, set_last, deref_last, tryX_eq, tryXK_nx, tryXK_rt, tryXK_ex, tryAs_eq, tryAsK_nx, tryAsK_rt, tryAsK_ex, e, e4]
theorem wlast_no {s : DS} {p : Nat} (hd : s[p]? = some (pgD [])) : m_Pages_without_last [.han p] s = .ex 1 [.int 0] s := by
  have d := deref_get hd
  unfold m_Pages_without_last B_Pages_without_last
  simp_arith [isStr_s, opAdd_ss, lenO_s, strO_s, last_ix, inHD_eq, inHK_nx, inHK_ex, get_last, set_last, deref_last, tryX_eq, tryXK_nx, tryXK_rt, tryXK_ex, tryAs_eq, tryAsK_nx, tryAsK_rt, tryAsK_ex, d]
theorem tx_app {ls : List Str} (h : ls ≠ []) (z : Str) : tx (ls ++ [z]) = tx ls ++ "\n" ++ z := by
  have key : ∀ ls : List Str, ls ≠ [] → Str.join "\n" (ls ++ [z]) = Str.join "\n" ls ++ "\n" ++ z := by
    intro ls
    induction ls with
    | nil => intro h; exact absurd rfl h
    | cons x l ih =>
      intro _
      cases l with
      | nil => rfl
      | cons y l =>
        show x ++ "\n" ++ Str.join "\n" ((y :: l) ++ [z]) = x ++ "\n" ++ Str.join "\n" (y :: l) ++ "\n" ++ z
        rw [ih (by simp)]
        apply TL.ext_tl
        simp only [TL.tl_append, List.append_assoc]
  have e1 : tx (ls ++ [z]) = Str.join "\n" (ls ++ [z]) := TL.join_eq _ _
  have e2 : tx ls = Str.join "\n" ls := TL.join_eq _ _
  rw [e1, e2]
  exact key ls h
theorem wrow_ok {s : DS} {p : Nat} {rows : List Rw} (hd : s[p]? = some (pgD rows)) {r : Rw} (H : ∀ z ∈ rows ++ [r], OkR z) (hl : rows.length ≤ 100) (g : Good (rows ++ [r])) : m_Pages_with_row [.han p, .str (txt r)] s = .ok (.han s.length) (s ++ [pgD (rows ++ [r])]) := by
  have d := deref_get hd
  have Hr : OkR r := H r (by simp)
  have H2 : ∀ z ∈ rows, OkR z := fun z hz => H z (List.mem_append_left _ hz)
  have e1 := read_ok s Hr
  have e2 := psaid_ok hd H2 (by omega)
  have e3 := pages_ok s H (by rw [List.length_append]; show rows.length + 1 ≤ _; omega) g
  have tl : ∀ z ∈ rows.map txt, z.length ≤ 1000 := fun z hz => by
    obtain ⟨r, hr, rfl⟩ := List.mem_map.mp hz
    exact txt_len (H2 r hr)
  have l1 := tx_len tl
  rw [List.length_map] at l1
  have l2 := txt_len Hr
  by_cases hn : rows = []
  · subst hn
    have e0 : opEq (.str (tx (List.map txt ([] : List Rw)))) (.str "") = some (.bl true) := by
      rw [List.map_nil, tx_nil, eq_s (by decide +kernel) (by decide +kernel), decide_eq_true rfl]
    have e4 : tx ((([] : List Rw) ++ [r]).map txt) = txt r := rfl
    rw [e4] at e3
    unfold m_Pages_with_row B_Pages_with_row
    simp_arith [isStr_s, opAdd_ss, lenO_s, strO_s, last_ix, inHD_eq, inHK_nx, inHK_ex, get_last, set_last, deref_last, tryX_eq, tryXK_nx, tryXK_rt, tryXK_ex, tryAs_eq, tryAsK_nx, tryAsK_rt, tryAsK_ex, d, e1, e2, e0, e3]
  · have ne : rows.map txt ≠ [] := by simpa using hn
    have h0 : tx (rows.map txt) ≠ "" := by
      cases rows with
      | nil => exact absurd rfl hn
      | cons r rows => exact tx_ne (.inl (txt_ne (H2 r List.mem_cons_self)))
    have e0 : opEq (.str (tx (rows.map txt))) (.str "") = some (.bl false) := by
      rw [eq_s (tx_ok fun z hz => by
        obtain ⟨r, hr, rfl⟩ := List.mem_map.mp hz
        exact (H2 r hr).sok) (by decide +kernel), decide_eq_false h0]
    have a1 : opAdd (.str (tx (rows.map txt))) (.str "\n") = some (.str (tx (rows.map txt) ++ "\n")) := opAdd_ss (by rw [len_nl]; omega)
    have a2 : opAdd (.str (tx (rows.map txt) ++ "\n")) (.str (txt r)) = some (.str (tx ((rows ++ [r]).map txt))) := by
      rw [opAdd_ss (by rw [Str.length_append, len_nl]; omega), List.map_append]
      show _ = some (D.str (tx (rows.map txt ++ [txt r])))
      rw [tx_app ne]
    unfold m_Pages_with_row B_Pages_with_row
    simp_arith [isStr_s, opAdd_ss, lenO_s, strO_s, last_ix, inHD_eq, inHK_nx, inHK_ex, get_last, set_last, deref_last, tryX_eq, tryXK_nx, tryXK_rt, tryXK_ex, tryAs_eq, tryAsK_nx, tryAsK_rt, tryAsK_ex, d, e1, e2, e0, a1, a2, e3]
abbrev KK := Str × Str
abbrev kp (z : KK) : D := .tup [.str z.1, .str z.2]
abbrev dT (K : List KK) (f : KK → D) : List (D × D) := K.map fun z => (kp z, f z)
theorem kEqT_kp (a b : KK) : kEqT (kp a) (kp b) = decide (a = b) := by
  have := kEqT_strs (l := [a.1, a.2]) (m := [b.1, b.2])
  have e : kEqT (kp a) (kp b) = decide ([a.1, a.2] = [b.1, b.2]) := this
  rw [e, decide_eq_decide]
  obtain ⟨a1, a2⟩ := a
  obtain ⟨b1, b2⟩ := b
  simp
theorem isKeyT_kp (a : KK) : isKeyT (kp a) = true := isKeyT_strs (l := [a.1, a.2])
theorem any_T (K : List KK) (f : KK → D) (k : KK) : ((dT K f).any fun p => kEqT p.1 (kp k)) = decide (k ∈ K) := by
  induction K with
  | nil => rfl
  | cons a K ih =>
    have e0 : dT (a :: K) f = (kp a, f a) :: dT K f := rfl
    rw [e0, List.any_cons, ih]
    rw [show kEqT (kp a, f a).1 (kp k) = decide (a = k) from kEqT_kp a k]
    by_cases h : a = k
    · subst h; simp
    · have h2 : ¬ k = a := fun z => h z.symm
      simp [h, h2]
theorem putT_T {K : List KK} {f g : KK → D} {k : KK} {v : D} (hv : g k = v) (hg : ∀ z ∈ K, z ≠ k → g z = f z) : putT (dT K f) (kp k) v = dT (ins K k) g := by
  unfold putT
  rw [any_T]
  by_cases h : k ∈ K
  · rw [decide_eq_true h, if_pos rfl, List.map_map]
    have e : ins K k = K := by unfold ins; rw [if_pos h]
    rw [e]
    refine List.map_congr_left fun z hz => ?_
    show (if kEqT (kp z) (kp k) = true then (kp z, v) else (kp z, f z)) = (kp z, g z)
    rw [kEqT_kp]
    by_cases h2 : z = k
    · subst h2
      rw [if_pos (decide_eq_true rfl), hv]
    · rw [if_neg (by simpa using h2), hg z hz h2]
  · rw [decide_eq_false h, if_neg Bool.false_ne_true]
    have e : ins K k = K ++ [k] := by unfold ins; rw [if_neg h]
    have e3 : dT (K ++ [k]) g = dT K g ++ [(kp k, g k)] := List.map_append
    rw [e, e3]
    have e1 : dT K f = dT K g := List.map_congr_left fun z hz => by rw [hg z hz (fun q => h (q ▸ hz))]
    show dT K f ++ [(kp k, v)] = dT K g ++ [(kp k, g k)]
    rw [e1, hv]
theorem mergeT_T (f : KK → D) : ∀ (l K : List KK), mergeTD (dT K f) (dT l f) = dT (ded K l) f
  | [], K => rfl
  | a :: l, K => by
    show mergeTD (putT (dT K f) (kp a) (f a)) (dT l f) = _
    rw [putT_T (g := f) rfl (fun _ _ _ => rfl), mergeT_T f l]
    rfl
theorem pairsT_T (f : KK → D) : ∀ l : List KK, pairsT (l.map fun z => D.tup [kp z, f z]) = some (dT l f)
  | [] => rfl
  | a :: l => by
    rw [List.map_cons]
    show (if isKeyT (kp a) = true then (pairsT (l.map fun z => D.tup [kp z, f z])).map ((kp a, f a) :: ·) else none) = _
    rw [if_pos (isKeyT_kp a), pairsT_T f l]
    rfl
theorem dict_T {f : KK → D} (l : List KK) : dictTO [.lst (l.map fun z => D.tup [kp z, f z])] = some (.dit (dT (ded [] l) f)) := by
  rw [dictTO_l, pairsT_T, ← mergeT_T f l []]
  rfl
def psort (K : List KK) : List KK := K.mergeSort fun a b => !ltD (kp b) (kp a)
theorem psort_perm (K : List KK) : (psort K).Perm K := List.mergeSort_perm _ _
def KOk (K : List KK) : Prop := ∀ z ∈ K, PyData.strOk z.1 = true ∧ PyData.strOk z.2 = true
theorem sorted_T {K : List KK} {f : KK → D} (h : KOk K) (hl : K.length ≤ 16777216) : sortTDO [.dit (dT K f)] = some (.lst ((psort K).map kp)) := by
  have e : (dT K f).map (·.1) = K.map kp := by rw [List.map_map]; rfl
  rw [sortTDO_d, e]
  have ok : sortOk (K.map kp) = true := by
    unfold sortOk
    rw [likeAll_sh (.tup [.str, .str]) (fun x hx => by
      obtain ⟨z, hz, rfl⟩ := List.mem_map.mp hx
      obtain ⟨h1, h2⟩ := h z hz
      exact ⟨by simp [okN, okNL, h1, h2], by simp [D.has, hasL, h1, h2]⟩), tupsOk_all]
    · simp [hl]
    · intro d hd
      obtain ⟨a, _, rfl⟩ := List.mem_map.mp hd
      exact ⟨_, _, rfl⟩
  rw [if_pos ok, sortD_map kp (fun a b => ltD (kp a) (kp b)) K fun _ _ => rfl]
  rfl
def kysOf (rows : List Rw) : List KK := ded [] (rows.map fun r => (r.o, r.k))
def floorP (rows : List Rw) (z : KK) : Bool := decide (0 < waitsR rows z.1 z.2 + readyR rows z.1 z.2)
def floorD (rows : List Rw) (z : KK) : D := .tup [.str z.1, .str z.2, .int (waitsR rows z.1 z.2), .int (readyR rows z.1 z.2)]
theorem kys_ok {rows : List Rw} (H : ∀ r ∈ rows, OkR r) : KOk (kysOf rows) := fun z hz => by
  have : z ∈ rows.map fun r => (r.o, r.k) := by
    rcases mem_ded.mp hz with h | h
    · cases h
    · exact h
  obtain ⟨r, hr, rfl⟩ := List.mem_map.mp this
  exact ⟨(H r hr).o.ok, (H r hr).k.ok⟩
theorem kys_len (rows : List Rw) : (kysOf rows).length ≤ rows.length := by
  have := ded_len (rows.map fun r => (r.o, r.k)) []
  rw [List.length_map] at this
  simpa [kysOf] using this
theorem floor_turn {s : DS} {p : Nat} {rows : List Rw} (hd : s[p]? = some (pgD rows)) (H : ∀ r ∈ rows, OkR r) {z : KK} (hz : PyData.strOk z.1 = true ∧ PyData.strOk z.2 = true) (fs : List D) (hf : fs.length ≤ 1000) :
    turnF (gT (gsC (gN 2) (gsC (gN 3) (gsN)))) L_Pages_on_floor_1 (kp z) (E_Pages_on_floor_1 (.v (.han p)) (.o (.lst fs))) s = .nx (E_Pages_on_floor_1 (.v (.han p)) (.o (.lst (fs ++ if floorP rows z = true then [floorD rows z] else [])))) s := by
  have d := deref_get hd
  have e1 := waits_ok hd H hz.1 hz.2
  have e2 := ready_ok hd H hz.1 hz.2
  unfold L_Pages_on_floor_1 floorP floorD
  by_cases c : 0 < waitsR rows z.1 z.2 + readyR rows z.1 z.2
  · simp_arith [isStr_s, opAdd_ss, lenO_s, strO_s, getT2_eq, get2TO_d, isDit_d, dnewTD_eq, deref_dit, calmDT_eq, calmDTK_d, frzDTB_eq, frzDTK_d, d, e1, e2, c]
  · simp_arith [isStr_s, opAdd_ss, lenO_s, strO_s, getT2_eq, get2TO_d, isDit_d, dnewTD_eq, deref_dit, calmDT_eq, calmDTK_d, frzDTB_eq, frzDTK_d, d, e1, e2, c]
theorem floor_ok {s : DS} {p : Nat} {rows : List Rw} (hd : s[p]? = some (pgD rows)) (H : ∀ r ∈ rows, OkR r) (hl : rows.length ≤ 900) : m_Pages_on_floor [.han p] s = .ok (.tup (((psort (kysOf rows)).filter (floorP rows)).map (floorD rows))) s := by
  have d := deref_get hd
  have e1 := dict_T (f := fun _ => .int 1) (rows.map fun r => (r.o, r.k))
  rw [List.map_map] at e1
  have e1' : dictTO [.lst (rows.map fun r => D.tup [.tup [.str r.o, .str r.k], .int 1])] = some (.dit (dT (kysOf rows) fun _ => .int 1)) := e1
  have kl := kys_len rows
  have e2 := sorted_T (f := fun _ => .int 1) (kys_ok H) (by omega)
  have lp := for_pre (put := gT (gsC (gN 2) (gsC (gN 3) (gsN)))) (f := L_Pages_on_floor_1) (fun pre => E_Pages_on_floor_1 (.v (.han p)) (.o (.lst ((pre.filter (floorP rows)).map (floorD rows))))) (fun _ => s) kp (psort (kysOf rows)) fun pre a post e => by
    have ha : a ∈ psort (kysOf rows) := by rw [e]; simp
    have hl2 : (pre.filter (floorP rows)).length ≤ 1000 := by
      have h1 := congrArg List.length e
      rw [(psort_perm _).length_eq, List.length_append] at h1
      have := List.length_filter_le (floorP rows) pre
      omega
    have t := floor_turn hd H (kys_ok H a ((psort_perm _).mem_iff.mp ha)) ((pre.filter (floorP rows)).map (floorD rows)) (by rw [List.length_map]; exact hl2)
    have e5 : ((pre ++ [a]).filter (floorP rows)).map (floorD rows) = (pre.filter (floorP rows)).map (floorD rows) ++ if floorP rows a = true then [floorD rows a] else [] := by
      rw [List.filter_append, List.map_append]
      by_cases c : floorP rows a = true
      · simp [c]
      · simp [c]
    show _ = F.nx (E_Pages_on_floor_1 (.v (.han p)) (.o (.lst (((pre ++ [a]).filter (floorP rows)).map (floorD rows))))) s
    rw [e5]
    exact t
  rw [List.filter_nil, List.map_nil] at lp
  unfold m_Pages_on_floor B_Pages_on_floor S_Pages_on_floor_1
  simp_arith [isStr_s, opAdd_ss, lenO_s, strO_s, getT2_eq, get2TO_d, isDit_d, dnewTD_eq, deref_dit, calmDT_eq, calmDTK_d, frzDTB_eq, frzDTK_d, d]
  rw [DR.lcm_ (fun r hr => ⟨_, rfl, by (simp_arith [isStr_s, opAdd_ss, lenO_s, strO_s, getT2_eq, get2TO_d, isDit_d, dnewTD_eq, deref_dit, calmDT_eq, calmDTK_d, frzDTB_eq, frzDTK_d]; try rfl)⟩)]
  simp_arith [isStr_s, opAdd_ss, lenO_s, strO_s, getT2_eq, get2TO_d, isDit_d, dnewTD_eq, deref_dit, calmDT_eq, calmDTK_d, frzDTB_eq, frzDTK_d, e1', e2, lp]
theorem sumOf_app (rows : List Rw) (r : Rw) (a b c : Str) : sumOf (rows ++ [r]) a b c = sumOf rows a b c + if r.s = a ∧ r.o = b ∧ r.k = c then r.n else 0 := by
  unfold sumOf
  rw [List.filter_append, List.map_append, List.sum_append]
  by_cases q : r.s = a ∧ r.o = b ∧ r.k = c
  · simp [q]
  · simp [q]
theorem good_snoc {rows : List Rw} {r : Rw} (g : Good rows) (h : addB rows r = true) : Good (rows ++ [r]) := fun pre x post e => by
  rcases List.eq_nil_or_concat post with h2 | ⟨p2, y, h2⟩
  · subst h2
    have e1 := List.append_inj' (e : rows ++ [r] = pre ++ [x]) rfl
    obtain ⟨e1, e2⟩ := e1
    injection e2 with e2
    rw [← e1, ← e2]
    exact h
  · rw [List.concat_eq_append] at h2
    subst h2
    have e1 : rows ++ [r] = (pre ++ x :: p2) ++ [y] := by rw [e]; simp
    exact g pre x p2 (List.append_inj' e1 rfl).1
end Kk19
set_option Elab.async false
set_option linter.all false
set_option maxRecDepth 100000
set_option maxHeartbeats 4000000
namespace L19
open PySem L2 DL DR Kk19
structure OkA (r : Rw) : Prop where
  ok : OkR r
  o : r.o = "ann"
  k : r.k = "rye"
abbrev T (rows : List Rw) : Str := tx (rows.map txt)
theorem OkA.all {rows : List Rw} (H : ∀ r ∈ rows, OkA r) : ∀ r ∈ rows, OkR r := fun r h => (H r h).ok
theorem txt_24 {r : Rw} (H : OkA r) : (txt r).length ≤ 24 := by
  have h := StrLaws.join_length_le " " (wds r)
  have e : txt r = Str.join " " (wds r) := TL.join_eq _ _
  rw [e]
  refine Nat.le_trans h ?_
  have h1 := sI_len H.ok.d.1 H.ok.d.2
  have h2 : r.s.length ≤ 5 := by
    have : r.s = "bring" ∨ r.s = "grind" ∨ r.s = "fetch" := by simpa [S_DEEDS] using H.ok.s
    rcases this with q | q | q <;> rw [q] <;> decide +kernel
  have h3 : r.o.length = 3 := by rw [H.o]; decide +kernel
  have h4 : r.k.length = 3 := by rw [H.k]; decide +kernel
  have h5 := sI_len (by have := H.ok.n; omega : 0 ≤ r.n) H.ok.n.2
  simp only [wds, List.map_cons, List.map_nil, List.sum_cons, List.sum_nil, List.length_cons, List.length_nil, len_sp]
  omega
theorem T_len {rows : List Rw} (H : ∀ r ∈ rows, OkA r) : (T rows).length ≤ rows.length * 25 := by
  have e : T rows = Str.join "\n" (rows.map txt) := TL.join_eq _ _
  have h1 := StrLaws.join_length_le "\n" (rows.map txt)
  have h2 := sum_le (ls := rows.map txt) (m := 24) fun z hz => by
    obtain ⟨r, hr, rfl⟩ := List.mem_map.mp hz
    exact txt_24 (H r hr)
  rw [len_nl] at h1
  rw [e]
  rw [List.length_map] at h1 h2
  omega
theorem T_sok {rows : List Rw} (H : ∀ r ∈ rows, OkR r) : PyData.strOk (T rows) = true := tx_ok fun z hz => by
  obtain ⟨r, hr, rfl⟩ := List.mem_map.mp hz
  exact (H r hr).sok
theorem T_app {rows : List Rw} (h : rows ≠ []) (r : Rw) : T (rows ++ [r]) = T rows ++ "\n" ++ txt r := by
  show tx ((rows ++ [r]).map txt) = _
  rw [List.map_append]
  exact tx_app (by simpa using h) _
theorem T_ne {rows : List Rw} {r : Rw} (H : OkR r) : T (rows ++ [r]) ≠ T rows := fun e => by
  by_cases h : rows = []
  · subst h
    have e : txt r = "" := e
    exact txt_ne H e
  · rw [T_app h] at e
    have e := congrArg Str.length e
    rw [Str.length_append, Str.length_append, len_nl] at e
    omega
theorem T_nil : T [] = "" := tx_nil
theorem T_some {rows : List Rw} (H : ∀ r ∈ rows, OkR r) (h : rows ≠ []) : T rows ≠ "" := by
  cases rows with
  | nil => exact absurd rfl h
  | cons r rows => exact tx_ne (.inl (txt_ne (H r List.mem_cons_self)))
abbrev prD (p : Str × Str) : D := .tup [.str p.1, .str p.2]
theorem nc_pr (l : List (Str × Str)) : noClo (.lst (l.map prD)) = true := by
  show noCloL (l.map prD) = true
  induction l with
  | nil => rfl
  | cons p l ih => exact ih
theorem nc_app {l m : List D} : noCloL (l ++ m) = (noCloL l && noCloL m) := by
  induction l with
  | nil => rfl
  | cons d l ih =>
    show (noClo d && noCloL (l ++ m)) = (noClo d && noCloL l && noCloL m)
    rw [ih, Bool.and_assoc]
theorem nc_set {l : List D} {k : Nat} {d : D} (h : noCloL l = true) (hd : noClo d = true) : noCloL (l.set k d) = true := by
  induction l generalizing k with
  | nil => exact h
  | cons x l ih =>
    unfold noCloL at h
    rw [Bool.and_eq_true] at h
    cases k with
    | zero =>
      show (noClo d && noCloL l) = true
      rw [hd, h.2]; rfl
    | succ k =>
      show (noClo x && noCloL (l.set k d)) = true
      rw [h.1, ih h.2]; rfl
structure Dk (s : DS) (t : Str) (dd uu : List (Str × Str)) : Prop where
  ex : ∃ a b, s[1]? = some (.obj 2 [.str t, .han a, .han b]) ∧ s[a]? = some (.lst (dd.map prD)) ∧ s[b]? = some (.lst (uu.map prD)) ∧ 1 < a ∧ 1 < b ∧ a ≠ b
  nc : noCloL s = true
def Ext (s s' : DS) : Prop := ∃ l, s' = s ++ l ∧ noCloL l = true
theorem Ext.refl (s : DS) : Ext s s := ⟨[], (List.append_nil s).symm, rfl⟩
theorem Ext.trans {a b c : DS} (h : Ext a b) (g : Ext b c) : Ext a c := by
  obtain ⟨l, rfl, h⟩ := h
  obtain ⟨m, rfl, g⟩ := g
  exact ⟨l ++ m, List.append_assoc .., by rw [nc_app, h, g]; rfl⟩
theorem Ext.get {a b : DS} (h : Ext a b) {k : Nat} {d : D} (e : a[k]? = some d) : b[k]? = some d := by
  obtain ⟨l, rfl, _⟩ := h
  rw [List.getElem?_append_left (List.getElem?_eq_some_iff.mp e).1]
  exact e
theorem Dk.ext {s s' : DS} {t : Str} {dd uu : List (Str × Str)} (D0 : Dk s t dd uu) (e : Ext s s') : Dk s' t dd uu := by
  obtain ⟨a, b, h1, h2, h3, h4⟩ := D0.ex
  refine ⟨⟨a, b, e.get h1, e.get h2, e.get h3, h4⟩, ?_⟩
  obtain ⟨l, rfl, n⟩ := e
  rw [nc_app, D0.nc, n]; rfl
theorem Dk.roll {x y : D} {t' : DS} {t : Str} {dd uu : List (Str × Str)} (D0 : Dk (x :: t') t dd uu) (hy : noClo y = true) : Dk (y :: t') t dd uu := by
  obtain ⟨a, b, h1, h2, h3, h4, h5, h6⟩ := D0.ex
  have n := D0.nc
  unfold noCloL at n
  rw [Bool.and_eq_true] at n
  obtain ⟨a, rfl⟩ : ∃ a', a = a' + 1 := ⟨a - 1, by omega⟩
  obtain ⟨b, rfl⟩ : ∃ b', b = b' + 1 := ⟨b - 1, by omega⟩
  exact ⟨⟨a + 1, b + 1, h1, h2, h3, h4, h5, h6⟩, by show (noClo y && noCloL t') = true; rw [hy, n.2]; rfl⟩
theorem set_get1 {s : DS} {a : Nat} {x : D} (h : 1 < a) : (s.set a x)[1]? = s[1]? := List.getElem?_set_ne (by omega)
theorem note_ok {s : DS} {t u : Str} {dd uu : List (Str × Str)} (D0 : Dk s t dd uu) (ht : PyData.strOk t = true) (hu : PyData.strOk u = true) (ne : u ≠ t) (hl : u.length ≤ 600) (hd : dd.length ≤ 100) :
    ∃ s', m_Desk_note [.han 1, .str u] s = .ok .non s' ∧ Dk s' u (dd ++ [(t, u)]) [] ∧ s'[0]? = s[0]? := by
  obtain ⟨a, b, h1, h2, h3, ha, hb, hab⟩ := D0.ex
  have d := deref_get h1
  have e : opEq (.str u) (.str t) = some (.bl false) := by rw [eq_s hu ht, decide_eq_false ne]
  have l0 : ¬ (600 < ((u.length : Nat) : Int)) := by omega
  have l1 : (dd.map prD).length < 16777216 := by rw [List.length_map]; omega
  have la : a < s.length := (List.getElem?_eq_some_iff.mp h2).1
  obtain ⟨s1, hs1⟩ : ∃ s1, s.set a (.lst (dd.map prD ++ [prD (t, u)])) = s1 := ⟨_, rfl⟩
  have d1 : s1[1]? = some (.obj 2 [.str t, .han a, .han b]) := by rw [← hs1, set_get1 ha, h1]
  have ls1 : s1.length = s.length := by rw [← hs1, List.length_set]
  obtain ⟨s2, hs2⟩ : ∃ s2, s1 ++ [D.lst []] = s2 := ⟨_, rfl⟩
  have d2 : s2[1]? = some (.obj 2 [.str t, .han a, .han b]) := by
    rw [← hs2, List.getElem?_append_left (List.getElem?_eq_some_iff.mp d1).1, d1]
  have l2 : 1 < s2.length := (List.getElem?_eq_some_iff.mp d2).1
  obtain ⟨s3, hs3⟩ : ∃ s3, s2.set 1 (.obj 2 [.str t, .han a, .han s1.length]) = s3 := ⟨_, rfl⟩
  have d3 : s3[1]? = some (.obj 2 [.str t, .han a, .han s1.length]) := by rw [← hs3, List.getElem?_set_self l2]
  have hs1' : s.set a (.lst (dd.map prD ++ [.tup [.str t, .str u]])) = s1 := hs1
  refine ⟨s3.set 1 (.obj 2 [.str u, .han a, .han s1.length]), ?_, ⟨⟨a, s1.length, ?_, ?_, ?_, ha, by omega, by omega⟩, ?_⟩, ?_⟩
  · unfold m_Desk_note B_Desk_note
    simp_arith [isStr_s, opAdd_ss, lenO_s, strO_s, last_ix, inHD_eq, inHK_nx, inHK_ex, get_last, set_last, deref_last, tryX_eq, tryXK_nx, tryXK_rt, tryXK_ex, d, e, l0, h2, l1, hs1', d1, hs2, d2, hs3, d3]
  · rw [List.getElem?_set_self (by rw [← hs3, List.length_set]; exact l2)]
  · rw [List.getElem?_set_ne (by omega), ← hs3, List.getElem?_set_ne (by omega), ← hs2, List.getElem?_append_left (by omega), ← hs1, List.getElem?_set_self la, List.map_append]
    rfl
  · rw [List.getElem?_set_ne (by omega), ← hs3, List.getElem?_set_ne (by omega), ← hs2]
    exact get_last
  · refine nc_set ?_ rfl
    rw [← hs3]
    refine nc_set ?_ rfl
    rw [← hs2, nc_app, ← hs1, nc_set D0.nc (by rw [show dd.map prD ++ [prD (t, u)] = (dd ++ [(t, u)]).map prD by rw [List.map_append]; rfl]; exact nc_pr _)]
    rfl
  · rw [List.getElem?_set_ne (by omega), ← hs3, List.getElem?_set_ne (by omega), ← hs2, List.getElem?_append_left (by omega), ← hs1, List.getElem?_set_ne (by omega)]
theorem popLB_eq {i : Nat} {fp : DL.Env → DS → DL.R Plc} {η : DL.Env} {s : DS} : popLB i fp η s = (fp η s).toF η fun pl s1 => popLM i pl η s1 (plcD pl η s1) := rfl
theorem popLM_snoc {i : Nat} {pl : Plc} {η : DL.Env} {s : DS} {l : List D} {d : D} : popLM i pl η s (some (.lst (l ++ [d]))) = popSet i pl d l η s := by
  unfold popLM
  have e : (l ++ [d])[(l ++ [d]).length - 1]? = some d := by simp
  dsimp only
  rw [e]
  dsimp only
  rw [List.dropLast_concat]
theorem undo_ok {s : DS} {t u w : Str} {dd uu : List (Str × Str)} (D0 : Dk s w (dd ++ [(t, u)]) uu) (hl : uu.length ≤ 100) : ∃ s', m_Desk_undo [.han 1] s = .ok .non s' ∧ Dk s' t dd (uu ++ [(t, u)]) ∧ s'[0]? = s[0]? := by
  obtain ⟨a, b, h1, h2, h3, ha, hb, hab⟩ := D0.ex
  have d := deref_get h1
  rw [List.map_append] at h2
  have h2 : s[a]? = some (.lst (dd.map prD ++ [.tup [.str t, .str u]])) := h2
  have dh := deref_get h2
  have e0 : (dd.map prD ++ [D.tup [.str t, .str u]]).isEmpty = false := by simp
  have l1 : (uu.map prD).length < 16777216 := by rw [List.length_map]; omega
  have la : a < s.length := (List.getElem?_eq_some_iff.mp h2).1
  have lb : b < s.length := (List.getElem?_eq_some_iff.mp h3).1
  obtain ⟨s1, hs1⟩ : ∃ s1, s.set a (.lst (dd.map prD)) = s1 := ⟨_, rfl⟩
  have d1 : s1[1]? = some (.obj 2 [.str w, .han a, .han b]) := by rw [← hs1, set_get1 ha, h1]
  have b1 : s1[b]? = some (.lst (uu.map prD)) := by rw [← hs1, List.getElem?_set_ne hab, h3]
  have d1' := deref_get d1
  obtain ⟨s2, hs2⟩ : ∃ s2, s1.set b (.lst (uu.map prD ++ [.tup [.str t, .str u]])) = s2 := ⟨_, rfl⟩
  have d2 : s2[1]? = some (.obj 2 [.str w, .han a, .han b]) := by rw [← hs2, set_get1 hb, d1]
  have ls1 : s1.length = s.length := by rw [← hs1, List.length_set]
  have ls2 : s2.length = s.length := by rw [← hs2, List.length_set, ls1]
  refine ⟨s2.set 1 (.obj 2 [.str t, .han a, .han b]), ?_, ⟨⟨a, b, ?_, ?_, ?_, ha, hb, hab⟩, ?_⟩, ?_⟩
  · unfold m_Desk_undo B_Desk_undo
    simp_arith [isStr_s, opAdd_ss, lenO_s, strO_s, last_ix, inHD_eq, inHK_nx, inHK_ex, get_last, set_last, deref_last, tryX_eq, tryXK_nx, tryXK_rt, tryXK_ex, d, dh, e0, popLB_eq, h2, popLM_snoc, popSet_h, hs1, d1', b1, l1, hs2, d2]
  · rw [List.getElem?_set_self (by omega)]
  · rw [List.getElem?_set_ne (by omega), ← hs2, List.getElem?_set_ne (by omega), ← hs1, List.getElem?_set_self la]
  · rw [List.getElem?_set_ne (by omega), ← hs2, List.getElem?_set_self (by omega), List.map_append]
    rfl
  · refine nc_set ?_ rfl
    rw [← hs2]
    refine nc_set ?_ (by rw [show uu.map prD ++ [D.tup [.str t, .str u]] = (uu ++ [(t, u)]).map prD by rw [List.map_append]; rfl]; exact nc_pr _)
    rw [← hs1]
    exact nc_set D0.nc (nc_pr _)
  · rw [List.getElem?_set_ne (by omega), ← hs2, List.getElem?_set_ne (by omega), ← hs1, List.getElem?_set_ne (by omega)]
theorem undo_no {s : DS} {w : Str} {uu : List (Str × Str)} (D0 : Dk s w [] uu) : m_Desk_undo [.han 1] s = .ex 2 [] s := by
  obtain ⟨a, b, h1, h2, h3, ha, hb, hab⟩ := D0.ex
  have d := deref_get h1
  have dh : deref s (.han a) = .lst [] := deref_get h2
  unfold m_Desk_undo B_Desk_undo
  simp_arith [isStr_s, opAdd_ss, lenO_s, strO_s, last_ix, inHD_eq, inHK_nx, inHK_ex, get_last, set_last, deref_last, tryX_eq, tryXK_nx, tryXK_rt, tryXK_ex, d, dh]
theorem redo_ok {s : DS} {t u w : Str} {dd uu : List (Str × Str)} (D0 : Dk s w dd (uu ++ [(t, u)])) (hl : dd.length ≤ 100) : ∃ s', m_Desk_redo [.han 1] s = .ok .non s' ∧ Dk s' u (dd ++ [(t, u)]) uu ∧ s'[0]? = s[0]? := by
  obtain ⟨a, b, h1, h3, h2, ha, hb, hab⟩ := D0.ex
  have d := deref_get h1
  rw [List.map_append] at h2
  have h2 : s[b]? = some (.lst (uu.map prD ++ [.tup [.str t, .str u]])) := h2
  have dh := deref_get h2
  have e0 : (uu.map prD ++ [D.tup [.str t, .str u]]).isEmpty = false := by simp
  have l1 : (dd.map prD).length < 16777216 := by rw [List.length_map]; omega
  have la : b < s.length := (List.getElem?_eq_some_iff.mp h2).1
  have lb : a < s.length := (List.getElem?_eq_some_iff.mp h3).1
  obtain ⟨s1, hs1⟩ : ∃ s1, s.set b (.lst (uu.map prD)) = s1 := ⟨_, rfl⟩
  have d1 : s1[1]? = some (.obj 2 [.str w, .han a, .han b]) := by rw [← hs1, set_get1 hb, h1]
  have b1 : s1[a]? = some (.lst (dd.map prD)) := by rw [← hs1, List.getElem?_set_ne (Ne.symm hab), h3]
  have d1' := deref_get d1
  obtain ⟨s2, hs2⟩ : ∃ s2, s1.set a (.lst (dd.map prD ++ [.tup [.str t, .str u]])) = s2 := ⟨_, rfl⟩
  have d2 : s2[1]? = some (.obj 2 [.str w, .han a, .han b]) := by rw [← hs2, set_get1 ha, d1]
  have ls1 : s1.length = s.length := by rw [← hs1, List.length_set]
  have ls2 : s2.length = s.length := by rw [← hs2, List.length_set, ls1]
  refine ⟨s2.set 1 (.obj 2 [.str u, .han a, .han b]), ?_, ⟨⟨a, b, ?_, ?_, ?_, ha, hb, hab⟩, ?_⟩, ?_⟩
  · unfold m_Desk_redo B_Desk_redo
    simp_arith [isStr_s, opAdd_ss, lenO_s, strO_s, last_ix, inHD_eq, inHK_nx, inHK_ex, get_last, set_last, deref_last, tryX_eq, tryXK_nx, tryXK_rt, tryXK_ex, d, dh, e0, popLB_eq, h2, popLM_snoc, popSet_h, hs1, d1', b1, l1, hs2, d2]
  · rw [List.getElem?_set_self (by omega)]
  · rw [List.getElem?_set_ne (by omega), ← hs2, List.getElem?_set_self (by omega), List.map_append]
    rfl
  · rw [List.getElem?_set_ne (by omega), ← hs2, List.getElem?_set_ne (by omega), ← hs1, List.getElem?_set_self la]
  · refine nc_set ?_ rfl
    rw [← hs2]
    refine nc_set ?_ (by rw [show dd.map prD ++ [D.tup [.str t, .str u]] = (dd ++ [(t, u)]).map prD by rw [List.map_append]; rfl]; exact nc_pr _)
    rw [← hs1]
    exact nc_set D0.nc (nc_pr _)
  · rw [List.getElem?_set_ne (by omega), ← hs2, List.getElem?_set_ne (by omega), ← hs1, List.getElem?_set_ne (by omega)]
theorem redo_no {s : DS} {w : Str} {dd : List (Str × Str)} (D0 : Dk s w dd []) : m_Desk_redo [.han 1] s = .ex 2 [] s := by
  obtain ⟨a, b, h1, h2, h3, ha, hb, hab⟩ := D0.ex
  have d := deref_get h1
  have dh : deref s (.han b) = .lst [] := deref_get h3
  unfold m_Desk_redo B_Desk_redo
  simp_arith [isStr_s, opAdd_ss, lenO_s, strO_s, last_ix, inHD_eq, inHK_nx, inHK_ex, get_last, set_last, deref_last, tryX_eq, tryXK_nx, tryXK_rt, tryXK_ex, d, dh]
end L19
set_option Elab.async false
set_option linter.all false
set_option maxRecDepth 100000
set_option maxHeartbeats 4000000
namespace L19
open PySem L2 DL DR Kk19
theorem nc_rw (rows : List Rw) : noCloL (rows.map rwD) = true := by
  induction rows with
  | nil => rfl
  | cons r l ih => exact ih
theorem nc_pg (rows : List Rw) : noCloL [pgD rows] = true := by
  show ((noCloL (rows.map rwD) && true) && true) = true
  rw [nc_rw]; rfl
theorem ext_pg (s : DS) (rows : List Rw) : Ext s (s ++ [pgD rows]) := ⟨_, rfl, nc_pg rows⟩
theorem pages_ext (s : DS) {rows : List Rw} (H : ∀ r ∈ rows, OkR r) (hl : rows.length ≤ 100) (g : Good rows) : ∃ s1 p, m_Pages_init [.str (T rows)] s = .ok (.han p) s1 ∧ s1[p]? = some (pgD rows) ∧ Ext s s1 :=
  ⟨_, _, pages_ok s H (by omega) g, get_last, ext_pg s rows⟩
theorem wrow_ext {s : DS} {p : Nat} {rows : List Rw} (hd : s[p]? = some (pgD rows)) {r : Rw} (H : ∀ z ∈ rows ++ [r], OkR z) (hl : rows.length ≤ 100) (g : Good (rows ++ [r])) : ∃ s1 q, m_Pages_with_row [.han p, .str (txt r)] s = .ok (.han q) s1 ∧ s1[q]? = some (pgD (rows ++ [r])) ∧ Ext s s1 :=
  ⟨_, _, wrow_ok hd H hl g, get_last, ext_pg s _⟩
theorem wlast_ext {s : DS} {p : Nat} {rows : List Rw} {l : Rw} (hd : s[p]? = some (pgD (rows ++ [l]))) (H : ∀ r ∈ rows ++ [l], OkR r) (hl : rows.length ≤ 100) (g : Good (rows ++ [l])) : ∃ s1 q, m_Pages_without_last [.han p] s = .ok (.han q) s1 ∧ s1[q]? = some (pgD rows) ∧ Ext s s1 :=
  ⟨_, _, wlast_ok hd H (by omega) g, get_last, ext_pg s _⟩
theorem wrow_bad {s : DS} {p : Nat} {rows : List Rw} (hd : s[p]? = some (pgD rows)) (H2 : ∀ z ∈ rows, OkR z) (hl : rows.length ≤ 100) (g : Good rows) {z : Str} (hz : Bad z ∨ ∃ r, z = txt r ∧ OkR r ∧ addB rows r = false) :
    ∃ k s1, m_Pages_with_row [.han p, .str z] s = .ex 1 [.int k] s1 ∧ Ext s s1 := by
  have d := deref_get hd
  rcases hz with hz | ⟨r, rfl, Hr, hb⟩
  · have e1 := hz s
    refine ⟨0, s, ?_, Ext.refl s⟩
    unfold m_Pages_with_row B_Pages_with_row
    simp_arith [isStr_s, opAdd_ss, lenO_s, strO_s, last_ix, inHD_eq, inHK_nx, inHK_ex, tryX_eq, tryXK_nx, tryXK_rt, tryXK_ex, d, e1]
  · have H : ∀ z ∈ rows ++ [r], OkR z := fun z hz => by
      rcases List.mem_append.mp hz with q | q
      · exact H2 z q
      · rw [List.mem_singleton.mp q]; exact Hr
    have L := okL_rows H (by rw [List.length_append]; show rows.length + 1 ≤ _; omega) (by simp)
    rw [List.map_append] at L
    have e1 := read_ok s Hr
    have e2 := psaid_ok hd H2 (by omega)
    have e3 := pages_bad s (post := []) H2 g L (.inl (txt_ne Hr)) (.inr ⟨r, rfl, Hr, hb⟩)
    have l1 : (T rows).length ≤ rows.length * 1001 := by
      have := tx_len (ls := rows.map txt) fun z hz => by
        obtain ⟨r, hr, rfl⟩ := List.mem_map.mp hz
        exact txt_len (H2 r hr)
      rw [List.length_map] at this
      exact this
    have l2 := txt_len Hr
    refine ⟨((rows.length : Nat) : Int), s ++ [pgD rows], ?_, ext_pg s rows⟩
    by_cases hn : rows = []
    · subst hn
      have e0 : opEq (.str (T ([] : List Rw))) (.str "") = some (.bl true) := by
        rw [T_nil, eq_s (by decide +kernel) (by decide +kernel), decide_eq_true rfl]
      have e4 : tx (([] : List Rw).map txt ++ txt r :: []) = txt r := rfl
      rw [e4] at e3
      unfold m_Pages_with_row B_Pages_with_row
      simp_arith [isStr_s, opAdd_ss, lenO_s, strO_s, last_ix, inHD_eq, inHK_nx, inHK_ex, tryX_eq, tryXK_nx, tryXK_rt, tryXK_ex, d, e1, e2, e0, e3]
    · have h0 := T_some H2 hn
      have e0 : opEq (.str (T rows)) (.str "") = some (.bl false) := by rw [eq_s (T_sok H2) (by decide +kernel), decide_eq_false h0]
      have a1 : opAdd (.str (T rows)) (.str "\n") = some (.str (T rows ++ "\n")) := opAdd_ss (by rw [len_nl]; omega)
      have a2 : opAdd (.str (T rows ++ "\n")) (.str (txt r)) = some (.str (tx (rows.map txt ++ txt r :: []))) := by
        rw [opAdd_ss (by rw [Str.length_append, len_nl]; omega), tx_app (by simpa using hn)]
      unfold m_Pages_with_row B_Pages_with_row
      simp_arith [isStr_s, opAdd_ss, lenO_s, strO_s, last_ix, inHD_eq, inHK_nx, inHK_ex, tryX_eq, tryXK_nx, tryXK_rt, tryXK_ex, d, e1, e2, e0, a1, a2, e3]
theorem tell_ok {s : DS} {rows : List Rw} {r : Rw} {dd uu : List (Str × Str)} (D0 : Dk s (T rows) dd uu) (H : ∀ z ∈ rows ++ [r], OkA z) (hl : rows.length ≤ 20) (g : Good (rows ++ [r])) (hd : dd.length ≤ 100) :
    ∃ s', m_Desk_tell [.han 1, .str (txt r)] s = .ok .non s' ∧ Dk s' (T (rows ++ [r])) (dd ++ [(T rows, T (rows ++ [r]))]) [] ∧ s'[0]? = s[0]? := by
  have H0 := OkA.all H
  have H2 : ∀ z ∈ rows, OkR z := fun z hz => H0 z (List.mem_append_left _ hz)
  obtain ⟨a, b, h1, _⟩ := D0.ex
  have d := deref_get h1
  obtain ⟨s1, p, e1, q1, x1⟩ := pages_ext s H2 (by omega) (good_pre g)
  have c1 := deref_get q1
  obtain ⟨s2, q, e2, q2, x2⟩ := wrow_ext q1 H0 (by omega) g
  have c2 := deref_get q2
  have e3 := psaid_ok q2 H0 (by rw [List.length_append]; show rows.length + 1 ≤ _; omega)
  have D2 := (D0.ext x1).ext x2
  have tl := T_len H
  rw [List.length_append] at tl
  have tl : (T (rows ++ [r])).length ≤ (rows.length + 1) * 25 := tl
  obtain ⟨s3, e4, D3, z3⟩ := note_ok D2 (T_sok H2) (T_sok H0) (T_ne (H0 r (by simp))) (by omega) hd
  have d2 := deref_get (x2.get (x1.get h1))
  refine ⟨s3, ?_, D3, ?_⟩
  · unfold m_Desk_tell B_Desk_tell
    simp_arith [isStr_s, opAdd_ss, lenO_s, strO_s, last_ix, inHD_eq, inHK_nx, inHK_ex, tryX_eq, tryXK_nx, tryXK_rt, tryXK_ex, d, e1, c1, e2, c2, e3, d2, e4]
  · rw [z3, x2.get (x1.get (List.getElem?_eq_getElem (by have := (List.getElem?_eq_some_iff.mp h1).1; omega : 0 < s.length)))]
    exact (List.getElem?_eq_getElem _).symm
theorem tell_no {s : DS} {rows : List Rw} {z : Str} {dd uu : List (Str × Str)} (D0 : Dk s (T rows) dd uu) (H : ∀ z ∈ rows, OkA z) (hl : rows.length ≤ 20) (g : Good rows) (hz : Bad z ∨ ∃ r, z = txt r ∧ OkR r ∧ addB rows r = false) :
    ∃ s', m_Desk_tell [.han 1, .str z] s = .ex 2 [] s' ∧ Dk s' (T rows) dd uu ∧ s'[0]? = s[0]? := by
  have H2 := OkA.all H
  obtain ⟨a, b, h1, _⟩ := D0.ex
  have d := deref_get h1
  obtain ⟨s1, p, e1, q1, x1⟩ := pages_ext s H2 (by omega) g
  have c1 := deref_get q1
  obtain ⟨k, s2, e2, x2⟩ := wrow_bad q1 H2 (by omega) g hz
  refine ⟨s2, ?_, (D0.ext x1).ext x2, ?_⟩
  · unfold m_Desk_tell B_Desk_tell
    simp_arith [isStr_s, opAdd_ss, lenO_s, strO_s, last_ix, inHD_eq, inHK_nx, inHK_ex, tryX_eq, tryXK_nx, tryXK_rt, tryXK_ex, d, e1, c1, e2]
  · rw [x2.get (x1.get (List.getElem?_eq_getElem (by have := (List.getElem?_eq_some_iff.mp h1).1; omega : 0 < s.length)))]
    exact (List.getElem?_eq_getElem _).symm
theorem strike_ok {s : DS} {rows : List Rw} {r : Rw} {dd uu : List (Str × Str)} (D0 : Dk s (T (rows ++ [r])) dd uu) (H : ∀ z ∈ rows ++ [r], OkA z) (hl : rows.length ≤ 20) (g : Good (rows ++ [r])) (hd : dd.length ≤ 100) :
    ∃ s', m_Desk_strike [.han 1] s = .ok .non s' ∧ Dk s' (T rows) (dd ++ [(T (rows ++ [r]), T rows)]) [] ∧ s'[0]? = s[0]? := by
  have H0 := OkA.all H
  have H3 : ∀ z ∈ rows, OkA z := fun z hz => H z (List.mem_append_left _ hz)
  have H2 := OkA.all H3
  obtain ⟨a, b, h1, _⟩ := D0.ex
  have d := deref_get h1
  obtain ⟨s1, p, e1, q1, x1⟩ := pages_ext s H0 (by rw [List.length_append]; show rows.length + 1 ≤ _; omega) g
  have c1 := deref_get q1
  obtain ⟨s2, q, e2, q2, x2⟩ := wlast_ext q1 H0 (by omega) g
  have c2 := deref_get q2
  have e3 := psaid_ok q2 H2 (by omega)
  have D2 := (D0.ext x1).ext x2
  have tl := T_len H3
  obtain ⟨s3, e4, D3, z3⟩ := note_ok D2 (T_sok H0) (T_sok H2) (Ne.symm (T_ne (H0 r (by simp)))) (by omega) hd
  have d2 := deref_get (x2.get (x1.get h1))
  refine ⟨s3, ?_, D3, ?_⟩
  · unfold m_Desk_strike B_Desk_strike
    simp_arith [isStr_s, opAdd_ss, lenO_s, strO_s, last_ix, inHD_eq, inHK_nx, inHK_ex, tryX_eq, tryXK_nx, tryXK_rt, tryXK_ex, d, e1, c1, e2, c2, e3, d2, e4]
  · rw [z3, x2.get (x1.get (List.getElem?_eq_getElem (by have := (List.getElem?_eq_some_iff.mp h1).1; omega : 0 < s.length)))]
    exact (List.getElem?_eq_getElem _).symm
theorem strike_no {s : DS} {dd uu : List (Str × Str)} (D0 : Dk s (T []) dd uu) : ∃ s', m_Desk_strike [.han 1] s = .ex 2 [] s' ∧ Dk s' (T []) dd uu ∧ s'[0]? = s[0]? := by
  obtain ⟨a, b, h1, _⟩ := D0.ex
  have d := deref_get h1
  obtain ⟨s1, p, e1, q1, x1⟩ := pages_ext s (rows := []) (by simp) (by show 0 ≤ 100; omega) (fun pre r post e => by simp at e)
  have c1 := deref_get q1
  have e2 := wlast_no q1
  refine ⟨s1, ?_, D0.ext x1, ?_⟩
  · unfold m_Desk_strike B_Desk_strike
    simp_arith [isStr_s, opAdd_ss, lenO_s, strO_s, last_ix, inHD_eq, inHK_nx, inHK_ex, tryX_eq, tryXK_nx, tryXK_rt, tryXK_ex, d, e1, c1, e2]
  · rw [x1.get (List.getElem?_eq_getElem (by have := (List.getElem?_eq_some_iff.mp h1).1; omega : 0 < s.length))]
    exact (List.getElem?_eq_getElem _).symm
end L19
set_option Elab.async false
set_option linter.all false
set_option maxRecDepth 100000
set_option maxHeartbeats 4000000
namespace L19
open PySem L2 DL DR Kk19
abbrev sO (rows : List Rw) (a : Str) : Int := sumOf rows a "ann" "rye"
abbrev wt (rows : List Rw) : Int := sO rows "bring" - sO rows "grind"
abbrev rd (rows : List Rw) : Int := sO rows "grind" - sO rows "fetch"
theorem sO_app {rows : List Rw} {r : Rw} (H : OkA r) (a : Str) : sO (rows ++ [r]) a = sO rows a + if r.s = a then r.n else 0 := by
  show sumOf (rows ++ [r]) a "ann" "rye" = _
  rw [sumOf_app]
  by_cases h : r.s = a
  · rw [if_pos ⟨h, H.o, H.k⟩, if_pos h]
  · rw [if_neg fun q => h q.1, if_neg h]
theorem bg : ¬ ("bring" : Str) = "grind" := by decide +kernel
theorem bf : ¬ ("bring" : Str) = "fetch" := by decide +kernel
theorem gf : ¬ ("grind" : Str) = "fetch" := by decide +kernel
theorem gb : ¬ ("grind" : Str) = "bring" := by decide +kernel
theorem fb : ¬ ("fetch" : Str) = "bring" := by decide +kernel
theorem fg : ¬ ("fetch" : Str) = "grind" := by decide +kernel
theorem sums_ok : ∀ (n : Nat) (rows : List Rw), rows.length = n → (∀ r ∈ rows, OkA r) → Good rows → 0 ≤ wt rows ∧ 0 ≤ rd rows
  | 0, rows, h, _, _ => by
    cases rows with
    | nil => exact ⟨by decide, by decide⟩
    | cons _ _ => cases h
  | n + 1, rows, h, H, g => by
    obtain ⟨pre, r, rfl⟩ : ∃ pre r, rows = pre ++ [r] := by
      cases e : rows.reverse with
      | nil =>
        have := congrArg List.length e
        rw [List.length_reverse, h] at this
        cases this
      | cons r l => exact ⟨l.reverse, r, by rw [← List.reverse_reverse rows, e, List.reverse_cons]⟩
    have Hr := H r (by simp)
    have ih := sums_ok n pre (by simpa using h) (fun z hz => H z (List.mem_append_left _ hz)) (good_pre g)
    have a := g pre r [] rfl
    unfold addB at a
    rw [Bool.and_eq_true, Bool.and_eq_true] at a
    obtain ⟨_, a1, a2⟩ := a
    have hn := Hr.ok.n
    have w : waitsR pre r.o r.k = wt pre := by rw [Hr.o, Hr.k]; rfl
    have rr : readyR pre r.o r.k = rd pre := by rw [Hr.o, Hr.k]; rfl
    rw [w] at a1
    rw [rr] at a2
    have hs : r.s = "bring" ∨ r.s = "grind" ∨ r.s = "fetch" := by simpa [S_DEEDS] using Hr.ok.s
    show 0 ≤ sO (pre ++ [r]) "bring" - sO (pre ++ [r]) "grind" ∧ 0 ≤ sO (pre ++ [r]) "grind" - sO (pre ++ [r]) "fetch"
    rw [sO_app Hr, sO_app Hr, sO_app Hr]
    have ih1 : 0 ≤ sO pre "bring" - sO pre "grind" := ih.1
    have ih2 : 0 ≤ sO pre "grind" - sO pre "fetch" := ih.2
    rcases hs with q | q | q
    · rw [q, if_pos rfl, if_neg bg, if_neg bf]
      omega
    · rw [q, if_neg gb, if_pos rfl, if_neg gf]
      rw [q] at a1
      have : ¬ wt pre < r.n := by simpa using a1
      have : ¬ sO pre "bring" - sO pre "grind" < r.n := this
      omega
    · rw [q, if_neg fb, if_neg fg, if_pos rfl]
      rw [q] at a2
      have : ¬ rd pre < r.n := by simpa using a2
      have : ¬ sO pre "grind" - sO pre "fetch" < r.n := this
      omega
theorem good_sums {rows : List Rw} (g : Good rows) (H : ∀ r ∈ rows, OkA r) : 0 ≤ wt rows ∧ 0 ≤ rd rows := sums_ok _ rows rfl H g
abbrev aR : KK := ("ann", "rye")
theorem ded_one {c : KK} : ∀ l : List KK, (∀ z ∈ l, z = c) → ded [c] l = [c]
  | [], _ => rfl
  | z :: l, h => by
    have e := h z List.mem_cons_self
    subst e
    have q : ins [z] z = [z] := by simp [ins]
    show ded (ins [z] z) l = [z]
    rw [q]
    exact ded_one l fun y hy => h y (List.mem_cons_of_mem _ hy)
theorem kys_one {rows : List Rw} (H : ∀ r ∈ rows, OkA r) (h : rows ≠ []) : kysOf rows = [aR] := by
  cases rows with
  | nil => exact absurd rfl h
  | cons r l =>
    have h0 := H r List.mem_cons_self
    show ded (ins ([] : List KK) (r.o, r.k)) (l.map fun r => (r.o, r.k)) = [aR]
    rw [h0.o, h0.k]
    refine ded_one (c := aR) _ fun z hz => ?_
    obtain ⟨r, hr, rfl⟩ := List.mem_map.mp hz
    have h1 := H r (List.mem_cons_of_mem _ hr)
    rw [h1.o, h1.k]
theorem floor_is {rows : List Rw} (H : ∀ r ∈ rows, OkA r) (g : Good rows) : ((psort (kysOf rows)).filter (floorP rows)).map (floorD rows) = [] ∧ wt rows = 0 ∧ rd rows = 0 ∨ ((psort (kysOf rows)).filter (floorP rows)).map (floorD rows) = [.tup [.str "ann", .str "rye", .int (wt rows), .int (rd rows)]] := by
  by_cases h : rows = []
  · subst h
    have e : psort (kysOf []) = [] := (psort_perm (kysOf [])).eq_nil
    rw [e]
    exact .inl ⟨rfl, rfl, rfl⟩
  · rw [kys_one H h]
    have e : psort [aR] = [aR] := by
      have := psort_perm [aR]
      exact List.perm_singleton.mp this
    have s := good_sums g H
    rw [e]
    by_cases q : 0 < waitsR rows "ann" "rye" + readyR rows "ann" "rye"
    · right
      rw [List.filter_cons, if_pos (show floorP rows aR = true from decide_eq_true q)]
      rfl
    · left
      rw [List.filter_cons, if_neg (show ¬ floorP rows aR = true from by rw [show floorP rows aR = false from decide_eq_false q]; exact Bool.false_ne_true)]
      have q : ¬ 0 < wt rows + rd rows := q
      exact ⟨rfl, by omega, by omega⟩
theorem io0 : intsOf [] = some [] := rfl
theorem io1 {i : Int} : intsOf [.int i] = some [i] := rfl
theorem judged_ok {s : DS} {rows : List Rw} {dd uu : List (Str × Str)} (D0 : Dk s (T rows) dd uu) (H : ∀ z ∈ rows, OkA z) (hl : rows.length ≤ 100) (g : Good rows) :
    ∃ s', m_Desk_judged [.han 1] s = .ok (.tup [.int (rows.length : Nat), .int (wt rows), .int (rd rows)]) s' ∧ Ext s s' := by
  have H2 := OkA.all H
  obtain ⟨a, b, h1, _⟩ := D0.ex
  have d := deref_get h1
  obtain ⟨s1, p, e1, q1, x1⟩ := pages_ext s H2 (by omega) g
  have c1 := deref_get q1
  have e2 := floor_ok q1 H2 (by omega)
  have ll : (rows.map rwD).length ≤ 16777216 := by rw [List.length_map]; omega
  refine ⟨s1, ?_, x1⟩
  rcases floor_is H g with ⟨f, w, r⟩ | f
  · rw [f] at e2
    rw [w, r]
    unfold m_Desk_judged B_Desk_judged
    simp_arith [isStr_s, opAdd_ss, lenO_s, strO_s, d, e1, c1, e2, lcF_nil, lcF_cons, io0, io1, List.sum_nil, List.sum_cons]
  · rw [f] at e2
    unfold m_Desk_judged B_Desk_judged
    simp_arith [isStr_s, opAdd_ss, lenO_s, strO_s, d, e1, c1, e2, lcF_nil, lcF_cons, io0, io1, List.sum_nil, List.sum_cons]
end L19
set_option Elab.async false
set_option linter.all false
set_option maxRecDepth 100000
set_option maxHeartbeats 4000000
namespace L19
open PySem L2 DL DR Kk19
abbrev txD (rows : List Rw) : D := .lst (rows.map fun r => D.str (txt r))
theorem lsum_ok (s : DS) {rows : List Rw} (H : ∀ r ∈ rows, OkA r) (hl : rows.length ≤ 100) {a : Str} (ha : PyData.strOk a = true) : m_law_sum [txD rows, .str a] s = .ok (.int (sO rows a)) s := by
  have c : rows.length ≤ 16777216 := by omega
  unfold m_law_sum B_law_sum
  simp_arith [isStr_s, opAdd_ss, lenO_s, strO_s, c]
  rw [DR.lcf_ (fun r hr => ⟨_, rfl, by (
    have q := (H r hr).ok
    have e1 := split_txt q
    have e := eq_s (deed_wd _ q.s).ok ha
    simp_arith [isStr_s, opAdd_ss, lenO_s, strO_s, e1, e]; try rfl), fun _ => by (
    have q := (H r hr).ok
    have e1 := split_txt q
    have e2 := sI_int (d := r.n) (by have := q.n; omega) q.n.2
    simp_arith [isStr_s, opAdd_ss, lenO_s, strO_s, e1, e2]; try rfl)⟩)]
  have f : ((rows.filter fun r => decide (r.s = a)).map fun r => r.n).sum = sO rows a := by
    show _ = ((rows.filter fun r => decide (r.s = a ∧ r.o = ("ann" : Str) ∧ r.k = ("rye" : Str))).map (·.n)).sum
    have : rows.filter (fun r => decide (r.s = a)) = rows.filter fun r => decide (r.s = a ∧ r.o = ("ann" : Str) ∧ r.k = ("rye" : Str)) := by
      apply List.filter_congr
      intro r hr
      have := H r hr
      simp [this.o, this.k]
    rw [this]
  simp_arith [isStr_s, opAdd_ss, lenO_s, strO_s, f]
def WdR (r : Rw) : Prop := ∀ z ∈ wds r, Wd z
theorem wsplit {r : Rw} (H : WdR r) (h : (txt r).length ≤ 1000) : splitO (.str (txt r)) [.str " "] = some (.lst [.str (sI r.d), .str r.s, .str r.o, .str r.k, .str (sI r.n)]) := by
  rw [splitO_s ⟨by decide +kernel, by omega⟩]
  have e : Txt.split (txt r) " " = wds r := TL.split_join tl_sp (by decide +kernel) (by simp [wds]) fun p hp => (H p hp).sp
  rw [e]
  rfl
theorem wlen {r : Rw} (H : WdR r) : (txt r).length ≤ 1000 := by
  have h := StrLaws.join_length_le " " (wds r)
  have e : txt r = Str.join " " (wds r) := TL.join_eq _ _
  rw [e]
  refine Nat.le_trans h ?_
  have h1 := (H _ (by simp [wds] : sI r.d ∈ wds r)).len
  have h2 := (H _ (by simp [wds] : r.s ∈ wds r)).len
  have h3 := (H _ (by simp [wds] : r.o ∈ wds r)).len
  have h4 := (H _ (by simp [wds] : r.k ∈ wds r)).len
  have h5 := (H _ (by simp [wds] : sI r.n ∈ wds r)).len
  simp only [wds, List.map_cons, List.map_nil, List.sum_cons, List.sum_nil, List.length_cons, List.length_nil, len_sp]
  omega
theorem wjoin {r : Rw} (H : WdR r) : joinO (.str " ") [.lst [.str (sI r.d), .str r.s, .str r.o, .str r.k, .str (sI r.n)]] = some (.str (txt r)) := by
  have h1 := (H _ (by simp [wds] : sI r.d ∈ wds r)).len
  have h2 := (H _ (by simp [wds] : r.s ∈ wds r)).len
  have h3 := (H _ (by simp [wds] : r.o ∈ wds r)).len
  have h4 := (H _ (by simp [wds] : r.k ∈ wds r)).len
  have h5 := (H _ (by simp [wds] : sI r.n ∈ wds r)).len
  refine joinO_s (ys := wds r) ?_
  simp only [wds, List.map_cons, List.map_nil, List.sum_cons, List.sum_nil, List.length_cons, List.length_nil, len_sp]
  omega
theorem no_row {r : Rw} (H : WdR r) (hd : 0 ≤ r.d ∧ r.d < 1000) (hn : 0 ≤ r.n ∧ r.n < 1000) (h : r.s ∉ S_DEEDS ∨ r.n = 0) : Bad (txt r) := fun s => by
  have l1 := sI_len hd.1 hd.2
  have l2 := sI_len hn.1 hn.2
  refine read_to _ _ _ _ _ _ r.d r.n (wsplit H (wlen H)) (by omega) (by omega) (fun ch hc => ?_) (sI_int hd.1 hd.2) (sI_int hn.1 hn.2) s (.inl ?_)
  · rw [TL.tl_append] at hc
    rcases List.mem_append.mp hc with q | q
    · exact sI_dig hd.1 q
    · exact sI_dig hn.1 q
  · by_cases q : r.s ∈ S_DEEDS
    · rcases h with h | h
      · exact absurd q h
      · rw [h]
        exact bad_n s _ (decide_eq_true q) _ (by omega) _ _
    · exact bad_deed s _ (decide_eq_false q) _ _ (by omega) _ _
def seqRK (g : DL.Env → DS → FR) : F → FR
  | .nx η' s' => g η' s'
  | _ => .bad
theorem seqR_eq {f : DL.Env → DS → F} {g : DL.Env → DS → FR} {η : DL.Env} {s : DS} : seqR f g η s = seqRK g (f η s) := by
  unfold seqR seqRK
  cases f η s <;> rfl
theorem seqRK_nx {g : DL.Env → DS → FR} {η : DL.Env} {s : DS} : seqRK g (.nx η s) = g η s := rfl
def retRK (η : DL.Env) : DL.R D → FR
  | .ok d s' => .rt d η s'
  | _ => .bad
theorem retR2_eq {f : DL.Env → DS → DL.R D} {η : DL.Env} {s : DS} : retR2 f η s = retRK η (f η s) := by
  unfold retR2 retRK
  cases f η s <;> rfl
theorem retRK_ok {η : DL.Env} {d : D} {s : DS} : retRK η (.ok d s) = .rt d η s := rfl
def ifRK (a b : DL.Env → DS → FR) (η : DL.Env) : DL.R Bool → FR
  | .ok c s' => if c = true then a η s' else b η s'
  | _ => .bad
theorem ifR_eq {c : DL.Env → DS → DL.R Bool} {a b : DL.Env → DS → FR} {η : DL.Env} {s : DS} : ifR c a b η s = ifRK a b η (c η s) := by
  unfold ifR ifRK
  cases c η s with
  | ok b s' => cases b <;> rfl
  | ex _ _ _ => rfl
  | bad => rfl
theorem ifRK_ok {a b : DL.Env → DS → FR} {c : Bool} {η : DL.Env} {s : DS} : ifRK a b η (.ok c s) = if c = true then a η s else b η s := rfl
theorem cloD_eq {j : Nat} {η : DL.Env} {s : DS} : cloD j η s = .ok (.clo j []) s := rfl
theorem deedD_ok {n : Nat} {capt : List (List Nat)} {body : DL.Env → DS → FR} {ds : List D} {s s' : DS} {j : Nat} {z : D} {η' : DL.Env} {cp : List Nat} {dv : List D} (h0 : noCloL s = true) (h1 : noCloL ds = true) (h2 : body (padE n (ds.map .v)) s = .rt (.tup [.clo j [], z]) η' s') (h3 : capt[j]? = some cp)
    (h4 : grab η' cp = some dv) (h5 : noClo z = true) (h6 : noCloL s' = true) : deedD n capt body ds s = .ok (.tup [.clo j dv, z]) s' := by
  unfold deedD
  rw [h0, h1, h2]
  show deedK capt (.rt (.tup [.clo j [], z]) η' s') = _
  unfold deedK
  dsimp only
  rw [h3]
  dsimp only
  rw [h4]
  dsimp only
  rw [h5, h6]
  rfl
theorem ne_s {a b : Str} (h1 : PyData.strOk a = true) (h2 : PyData.strOk b = true) : opNe (.str a) (.str b) = some (.bl (!decide (a = b))) := by rw [opNe_ssX h1 h2, str_beq]
theorem rows_of {rows : List Rw} (H : ∀ r ∈ rows, OkR r) (hl : rows.length ≤ 100) : opNe (.str (T rows)) (.str "") = some (.bl (!rows.isEmpty)) ∧ (rows ≠ [] → splitO (.str (T rows)) [.str "\n"] = some (txD rows)) := by
  constructor
  · rw [ne_s (T_sok H) (by decide +kernel)]
    by_cases h : rows = []
    · subst h
      rw [T_nil]
      rfl
    · rw [decide_eq_false (show ¬ T rows = "" from T_some H h)]
      cases rows with
      | nil => exact absurd rfl h
      | cons _ _ => rfl
  · intro h
    have := split_tx (okL_rows H (by omega) h)
    rw [List.map_map] at this
    exact this
end L19
set_option Elab.async false
set_option linter.all false
set_option maxRecDepth 100000
set_option maxHeartbeats 4000000
namespace L19
open PySem L2 DL DR Kk19
abbrev kM (a b : Int) : List (D × D) := [(.str "bring", .int 99), (.str "grind", .int a), (.str "fetch", .int b), (.str "odd", .int 0)]
theorem mg4 (a b : Int) : mergeD [] (kM a b) = kM a b := by kernel_rfl
theorem vb4 (a b : Int) : valD (kM a b) (.str "bring") = some (.int 99) := by kernel_rfl
theorem vg4 (a b : Int) : valD (kM a b) (.str "grind") = some (.int a) := by kernel_rfl
theorem vf4 (a b : Int) : valD (kM a b) (.str "fetch") = some (.int b) := by kernel_rfl
theorem vo4 (a b : Int) : valD (kM a b) (.str "odd") = some (.int 0) := by kernel_rfl
def lastd (rows : List Rw) : Int := match rows.getLast? with
  | none => 0
  | some l => l.d
theorem last_at {rows : List Rw} (h : rows ≠ []) : ∃ l, l ∈ rows ∧ lastd rows = l.d ∧ atI (rows.map fun r => D.str (txt r)) ((rows.length : Nat) - 1) = some (.str (txt l)) ∧ ∃ pre, rows = pre ++ [l] := by
  obtain ⟨pre, l, rfl⟩ : ∃ pre l, rows = pre ++ [l] := ⟨_, _, (List.dropLast_concat_getLast h).symm⟩
  refine ⟨l, by simp, by simp [lastd], ?_, pre, rfl⟩
  rw [atI_ofNat (by rw [List.length_append]; simp) (by simp; omega)]
  have e : (((pre ++ [l]).length : Nat) - 1 : Int).toNat = pre.length := by rw [List.length_append]; simp
  rw [e, List.map_append, List.getElem?_append_right (by simp)]
  simp
theorem strike_due (x : Dc) {rows : List Rw} (H : ∀ r ∈ rows, OkA r) (hl : rows.length ≤ 20) {y : Dc} (e4 : ∀ t, m_law_roll [.han 0, .int 4] (Dc.d x :: t) = .ok (.int 0) (Dc.d y :: t)) (t : DS) (nt : noCloL t = true) :
    m_law_deed [.han 1, .han 0, .str (T rows)] (x.d :: t) = .ok (.tup [.clo 0 [.han 1], .str (T rows.dropLast)]) (y.d :: t) := by
  have H2 := OkA.all H
  obtain ⟨n1, n2⟩ := rows_of H2 (by omega)
  have c : rows.length ≤ 16777216 := by omega
  refine deedD_ok (η' := [.v (.han 1), .v (.han 0), .v (.str (T rows)), .v (txD rows), .no, .no, .no, .no, .no, .no, .no]) (cp := [0]) nt rfl ?_ rfl rfl rfl nt
  by_cases h : rows = []
  · subst h
    unfold B_law_deed
    simp_arith [isStr_s, opAdd_ss, lenO_s, strO_s, seqR_eq, seqRK_nx, ifR_eq, ifRK_ok, retR2_eq, retRK_ok, cloD_eq, n1, e4]
    rfl
  · obtain ⟨l, _, _, _, pre, rfl⟩ := last_at h
    have b : (pre ++ [l]).isEmpty = false := by simp
    rw [b] at n1
    have n1 : opNe (.str (T (pre ++ [l]))) (.str "") = some (.bl true) := n1
    have n2 := n2 h
    have lt : (0 : Int) ≤ ((pre ++ [l]).length : Nat) - 1 := by rw [List.length_append]; simp
    have j : joinO (.str "\n") [.lst (((pre ++ [l]).map fun r => D.str (txt r)).take (((pre ++ [l]).length : Nat) - 1 : Int).toNat)] = some (.str (T pre)) := by
      have e : (((pre ++ [l]).length : Nat) - 1 : Int).toNat = pre.length := by rw [List.length_append]; simp
      rw [e, List.map_append, List.take_append_of_le_length (by simp), List.take_of_length_le (by simp)]
      have := join_tx (ls := pre.map txt) (fun z hz => by
        obtain ⟨r, hr, rfl⟩ := List.mem_map.mp hz
        exact txt_len (H2 r (List.mem_append_left _ hr))) (by rw [List.length_map]; have := hl; rw [List.length_append] at this; omega)
      rw [List.map_map] at this
      exact this
    have d0 : (pre ++ [l]).dropLast = pre := List.dropLast_concat
    rw [d0]
    generalize he : pre ++ [l] = rows at *
    unfold B_law_deed
    simp_arith [isStr_s, opAdd_ss, lenO_s, strO_s, seqR_eq, seqRK_nx, ifR_eq, ifRK_ok, retR2_eq, retRK_ok, cloD_eq, n1, n2, e4, b, lt, j]
theorem tell_due (x : Dc) {rows : List Rw} (H : ∀ r ∈ rows, OkA r) (hl : rows.length ≤ 20) {y y1 y2 y3 : Dc} {f day v many : Int} (e4 : ∀ t, m_law_roll [.han 0, .int 4] (Dc.d x :: t) = .ok (.int f) (Dc.d y :: t)) (hf : f ≠ 0)
    (e5 : ∀ t, m_law_roll [.han 0, .int 5] (Dc.d y :: t) = .ok (.int day) (Dc.d y1 :: t)) (ev : ∀ t, m_law_roll [.han 0, .int 4] (Dc.d y1 :: t) = .ok (.int v) (Dc.d y2 :: t)) (e12 : ∀ t, m_law_roll [.han 0, .int 12] (Dc.d y2 :: t) = .ok (.int many) (Dc.d y3 :: t))
    (bd : 0 ≤ day ∧ day < 5) (bm : 0 ≤ many ∧ many < 12) {sd : Str} {most : Int} (hs : atI [D.str "bring", D.str "grind", D.str "fetch", D.str "odd"] v = some (.str sd)) (hm : valD (kM (wt rows) (rd rows)) (.str sd) = some (.int most)) (wd : Wd sd) {b : Bool} (hb : b = (decide (lastd rows ≤ day) && (decide (1 ≤ many) && decide (many ≤ most)))) (hA : b = true → OkA ⟨day, sd, "ann", "rye", many⟩) (t : DS) (nt : noCloL t = true) :
    m_law_deed [.han 1, .han 0, .str (T rows)] (x.d :: t) = .ok (.tup [.clo 1 [.han 1, .str (txt ⟨day, sd, "ann", "rye", many⟩)], .str (if b = true then T (rows ++ [⟨day, sd, "ann", "rye", many⟩]) else T rows)]) (y3.d :: t) := by
  have H2 := OkA.all H
  obtain ⟨n1, n2⟩ := rows_of H2 (by omega)
  have c : rows.length ≤ 16777216 := by omega
  obtain ⟨r, hr⟩ : ∃ r : Rw, r = ⟨day, sd, "ann", "rye", many⟩ := ⟨_, rfl⟩
  have wr : WdR r := by
    rw [hr]
    intro z hz
    have : z = sI day ∨ z = sd ∨ z = "ann" ∨ z = "rye" ∨ z = sI many := by simpa [wds] using hz
    rcases this with rfl | rfl | rfl | rfl | rfl
    · exact num_wd bd.1 (by omega)
    · exact wd
    · exact ann_wd
    · exact rye_wd
    · exact num_wd bm.1 (by omega)
  have jr := wjoin wr
  have sd1 := sI_str bd.1 (by omega : day < 1000)
  have sd2 := sI_str bm.1 (by omega : many < 1000)
  obtain ⟨L, hL⟩ : ∃ L, L = rows.map fun r => D.str (txt r) := ⟨_, rfl⟩
  have g1 : ∀ s, m_law_sum [.lst L, .str "bring"] s = .ok (.int (sO rows "bring")) s := fun s => by rw [hL]; exact lsum_ok s H (by omega) bring_ok
  have g2 : ∀ s, m_law_sum [.lst L, .str "grind"] s = .ok (.int (sO rows "grind")) s := fun s => by rw [hL]; exact lsum_ok s H (by omega) grind_ok
  have g3 : ∀ s, m_law_sum [.lst L, .str "fetch"] s = .ok (.int (sO rows "fetch")) s := fun s => by rw [hL]; exact lsum_ok s H (by omega) fetch_ok
  have mg := mg4 (wt rows) (rd rows)
  have lL : L.length = rows.length := by rw [hL, List.length_map]
  have cl : L.length + 1 ≤ 16777216 := by omega
  have jn : b = true → joinO (.str "\n") [.lst (L ++ [.str (txt r)])] = some (.str (T (rows ++ [r]))) := fun q => by
    have := join_tx (ls := (rows ++ [r]).map txt) (fun z hz => by
      obtain ⟨r1, hr1, rfl⟩ := List.mem_map.mp hz
      rcases List.mem_append.mp hr1 with q1 | q1
      · exact txt_len (H2 _ q1)
      · rw [List.mem_singleton.mp q1]
        exact wlen wr) (by rw [List.length_map, List.length_append]; show rows.length + 1 ≤ 1000; omega)
    rw [List.map_map, List.map_append] at this
    rw [hL]
    exact this
  rw [← hr]
  have jr' : joinO (.str " ") [.lst [.str (sI day), .str sd, .str "ann", .str "rye", .str (sI many)]] = some (.str (txt r)) := by
    rw [hr] at jr ⊢
    exact jr
  have hT : txD rows = .lst L := by rw [hL]
  refine deedD_ok (η' := [.v (.han 1), .v (.han 0), .v (.str (T rows)), .v (.lst L), .v (.int day), .v (.str sd), .v (.int many), .v (.str (txt r)), .v (.int (lastd rows)), .v (.int most), .v (.bl b)]) (cp := [0, 7]) nt rfl ?_ rfl rfl rfl nt
  by_cases h : rows = []
  · have n1 : opNe (.str (T rows)) (.str "") = some (.bl false) := by rw [n1, h]; rfl
    have hz : L = [] := by rw [hL, h]; rfl
    have ld : lastd rows = 0 := by rw [h]; rfl
    subst hz
    by_cases c1 : lastd rows ≤ day
    · by_cases c2 : 1 ≤ many
      · by_cases c3 : many ≤ most
        · obtain rfl : b = true := by rw [hb]; simp [c1, c2, c3]
          have jn := jn rfl
          rw [List.nil_append] at jn
          rw [ld] at c1 ⊢
          unfold B_law_deed
          simp_arith [isStr_s, opAdd_ss, lenO_s, strO_s, seqR_eq, seqRK_nx, ifR_eq, ifRK_ok, retR2_eq, retRK_ok, cloD_eq, n1, e4, hf, e5, ev, e12, hs, sd1, sd2, jr', g1, g2, g3, mg, hm, c1, c2, c3, cl, jn]
        · obtain rfl : b = false := by rw [hb]; simp [c1, c2, c3]
          rw [ld] at c1 ⊢
          unfold B_law_deed
          simp_arith [isStr_s, opAdd_ss, lenO_s, strO_s, seqR_eq, seqRK_nx, ifR_eq, ifRK_ok, retR2_eq, retRK_ok, cloD_eq, n1, e4, hf, e5, ev, e12, hs, sd1, sd2, jr', g1, g2, g3, mg, hm, c1, c2, c3]
      · obtain rfl : b = false := by rw [hb]; simp [c1, c2]
        rw [ld] at c1 ⊢
        unfold B_law_deed
        simp_arith [isStr_s, opAdd_ss, lenO_s, strO_s, seqR_eq, seqRK_nx, ifR_eq, ifRK_ok, retR2_eq, retRK_ok, cloD_eq, n1, e4, hf, e5, ev, e12, hs, sd1, sd2, jr', g1, g2, g3, mg, hm, c1, c2]
    · rw [ld] at c1
      exact absurd bd.1 c1
  · obtain ⟨l, hl1, ld, at8, _⟩ := last_at h
    have n1 : opNe (.str (T rows)) (.str "") = some (.bl true) := by
      rw [n1]
      cases rows with
      | nil => exact absurd rfl h
      | cons _ _ => rfl
    have n2 := n2 h
    rw [hT] at n2
    rw [← hL] at at8
    rw [← lL] at at8
    have ie : L.isEmpty = false := by
      rw [hL]
      cases rows with
      | nil => exact absurd rfl h
      | cons _ _ => rfl
    have lL2 : L.length ≤ 16777216 := by omega
    have s8 := split_txt (H2 l hl1)
    have i8 := sI_int (H2 l hl1).d.1 (H2 l hl1).d.2
    by_cases c1 : lastd rows ≤ day
    · by_cases c2 : 1 ≤ many
      · by_cases c3 : many ≤ most
        · obtain rfl : b = true := by rw [hb]; simp [c1, c2, c3]
          have jn := jn rfl
          rw [ld] at c1 ⊢
          unfold B_law_deed
          simp_arith [isStr_s, opAdd_ss, lenO_s, strO_s, seqR_eq, seqRK_nx, ifR_eq, ifRK_ok, retR2_eq, retRK_ok, cloD_eq, n1, e4, hf, e5, ev, e12, hs, sd1, sd2, jr', g1, g2, g3, mg, hm, n2, ie, lL2, at8, s8, i8, c1, c2, c3, cl, jn]
        · obtain rfl : b = false := by rw [hb]; simp [c1, c2, c3]
          rw [ld] at c1 ⊢
          unfold B_law_deed
          simp_arith [isStr_s, opAdd_ss, lenO_s, strO_s, seqR_eq, seqRK_nx, ifR_eq, ifRK_ok, retR2_eq, retRK_ok, cloD_eq, n1, e4, hf, e5, ev, e12, hs, sd1, sd2, jr', g1, g2, g3, mg, hm, n2, ie, lL2, at8, s8, i8, c1, c2, c3]
      · obtain rfl : b = false := by rw [hb]; simp [c1, c2]
        rw [ld] at c1 ⊢
        unfold B_law_deed
        simp_arith [isStr_s, opAdd_ss, lenO_s, strO_s, seqR_eq, seqRK_nx, ifR_eq, ifRK_ok, retR2_eq, retRK_ok, cloD_eq, n1, e4, hf, e5, ev, e12, hs, sd1, sd2, jr', g1, g2, g3, mg, hm, n2, ie, lL2, at8, s8, i8, c1, c2]
    · obtain rfl : b = false := by rw [hb]; simp [c1]
      rw [ld] at c1 ⊢
      unfold B_law_deed
      simp_arith [isStr_s, opAdd_ss, lenO_s, strO_s, seqR_eq, seqRK_nx, ifR_eq, ifRK_ok, retR2_eq, retRK_ok, cloD_eq, n1, e4, hf, e5, ev, e12, hs, sd1, sd2, jr', g1, g2, g3, mg, hm, n2, ie, lL2, at8, s8, i8, c1]
end L19
set_option Elab.async false
set_option linter.all false
set_option maxRecDepth 100000
set_option maxHeartbeats 4000000
namespace L19
open PySem L2 DL DR Kk19
theorem day_is {rows : List Rw} {r : Rw} (h : 0 ≤ r.d) : dayB rows r = decide (lastd rows ≤ r.d) := by
  unfold dayB lastd
  cases rows.getLast? with
  | none => exact (decide_eq_true h).symm
  | some l => rfl
theorem addB_is {rows : List Rw} {r : Rw} (h : 0 ≤ r.d) (ho : r.o = "ann") (hk : r.k = "rye") : addB rows r = (decide (lastd rows ≤ r.d) && (!(decide (r.s = "grind") && decide (wt rows < r.n)) && !(decide (r.s = "fetch") && decide (rd rows < r.n)))) := by
  unfold addB
  rw [day_is h, ho, hk]
  rfl
theorem deeds_in : ("bring" : Str) ∈ S_DEEDS ∧ ("grind" : Str) ∈ S_DEEDS ∧ ("fetch" : Str) ∈ S_DEEDS ∧ ("odd" : Str) ∉ S_DEEDS := by decide +kernel
theorem odd_wd : Wd "odd" := ⟨by decide +kernel, by decide +kernel, by decide +kernel, by decide +kernel, by decide +kernel⟩
inductive Deed (x x' : Dc) (rows : List Rw) : Prop where
  | strike (h : ∀ t, noCloL t = true → m_law_deed [.han 1, .han 0, .str (T rows)] (x.d :: t) = .ok (.tup [.clo 0 [.han 1], .str (T rows.dropLast)]) (x'.d :: t))
  | tell (r : Rw) (hr : OkA r) (ha : addB rows r = true) (h : ∀ t, noCloL t = true → m_law_deed [.han 1, .han 0, .str (T rows)] (x.d :: t) = .ok (.tup [.clo 1 [.han 1, .str (txt r)], .str (T (rows ++ [r]))]) (x'.d :: t))
  | no (r : Rw) (hz : Bad (txt r) ∨ ∃ r', txt r = txt r' ∧ OkR r' ∧ addB rows r' = false) (h : ∀ t, noCloL t = true → m_law_deed [.han 1, .han 0, .str (T rows)] (x.d :: t) = .ok (.tup [.clo 1 [.han 1, .str (txt r)], .str (T rows)]) (x'.d :: t))
theorem wdr {day many : Int} (bd : 0 ≤ day ∧ day < 5) (bm : 0 ≤ many ∧ many < 12) {sd : Str} (wd : Wd sd) : WdR ⟨day, sd, "ann", "rye", many⟩ := by
  intro z hz
  have : z = sI day ∨ z = sd ∨ z = "ann" ∨ z = "rye" ∨ z = sI many := by simpa [wds] using hz
  rcases this with rfl | rfl | rfl | rfl | rfl
  · exact num_wd bd.1 (by omega)
  · exact wd
  · exact ann_wd
  · exact rye_wd
  · exact num_wd bm.1 (by omega)
theorem oka {day many : Int} (bd : 0 ≤ day ∧ day < 5) (bm : 0 ≤ many ∧ many < 12) {sd : Str} (hs : sd ∈ S_DEEDS) (h1 : 1 ≤ many) : OkA ⟨day, sd, "ann", "rye", many⟩ :=
  ⟨⟨⟨bd.1, by show day < 1000; omega⟩, hs, ann_wd, rye_wd, ⟨h1, by show many < 1000; omega⟩⟩, rfl, rfl⟩
/-- the three deeds: what the law allows is what the pages take -/
theorem deed_of (x : Dc) {rows : List Rw} (H : ∀ r ∈ rows, OkA r) (hl : rows.length ≤ 20) {y y1 y2 y3 : Dc} {f day v many : Int} (e4 : ∀ t, m_law_roll [.han 0, .int 4] (Dc.d x :: t) = .ok (.int f) (Dc.d y :: t)) (hf : f ≠ 0)
    (e5 : ∀ t, m_law_roll [.han 0, .int 5] (Dc.d y :: t) = .ok (.int day) (Dc.d y1 :: t)) (ev : ∀ t, m_law_roll [.han 0, .int 4] (Dc.d y1 :: t) = .ok (.int v) (Dc.d y2 :: t)) (e12 : ∀ t, m_law_roll [.han 0, .int 12] (Dc.d y2 :: t) = .ok (.int many) (Dc.d y3 :: t))
    (bd : 0 ≤ day ∧ day < 5) (bm : 0 ≤ many ∧ many < 12) {sd : Str} {most : Int} (hs : atI [D.str "bring", D.str "grind", D.str "fetch", D.str "odd"] v = some (.str sd)) (hm : valD (kM (wt rows) (rd rows)) (.str sd) = some (.int most)) (hd : sd ∈ S_DEEDS)
    (hq : (!(decide (sd = "grind") && decide (wt rows < many)) && !(decide (sd = "fetch") && decide (rd rows < many))) = decide (many ≤ most)) : Deed x y3 rows := by
  have wd := deed_wd _ hd
  have ha : addB rows ⟨day, sd, "ann", "rye", many⟩ = (decide (lastd rows ≤ day) && decide (many ≤ most)) := by
    rw [addB_is (r := ⟨day, sd, "ann", "rye", many⟩) bd.1 rfl rfl]
    exact congrArg (decide (lastd rows ≤ day) && ·) hq
  by_cases c2 : 1 ≤ many
  · have ok := oka bd bm hd c2
    by_cases c : lastd rows ≤ day ∧ many ≤ most
    · refine .tell _ ok (by rw [ha, decide_eq_true c.1, decide_eq_true c.2]; rfl) fun t nt => ?_
      exact tell_due x H hl e4 hf e5 ev e12 bd bm hs hm wd (b := true) (by rw [decide_eq_true c.1, decide_eq_true c.2, decide_eq_true c2]; rfl) (fun _ => ok) t nt
    · have ca : (decide (lastd rows ≤ day) && decide (many ≤ most)) = false := by
        rw [Bool.and_eq_false_iff]
        by_cases c1 : lastd rows ≤ day
        · exact .inr (decide_eq_false fun q => c ⟨c1, q⟩)
        · exact .inl (decide_eq_false c1)
      refine .no _ (.inr ⟨_, rfl, ok.ok, ha.trans ca⟩) fun t nt => ?_
      exact tell_due x H hl e4 hf e5 ev e12 bd bm hs hm wd (b := false) (by rw [decide_eq_true c2, Bool.true_and]; exact ca.symm) (fun z => by cases z) t nt
  · refine .no _ (.inl (no_row (wdr bd bm wd) ⟨bd.1, by show day < 1000; omega⟩ ⟨bm.1, by show many < 1000; omega⟩ (.inr (by show many = 0; omega)))) fun t nt => ?_
    exact tell_due x H hl e4 hf e5 ev e12 bd bm hs hm wd (b := false) (by rw [decide_eq_false c2, Bool.false_and, Bool.and_false]) (fun z => by cases z) t nt
theorem deed_ok (x : Dc) {rows : List Rw} (H : ∀ r ∈ rows, OkA r) (hl : rows.length ≤ 20) : ∃ x', Deed x x' rows := by
  obtain ⟨f, y, b_f, e_f⟩ := DR.roll_ex x 4 (by omega)
  by_cases hf : f = 0
  · subst hf
    exact ⟨y, .strike fun t nt => strike_due x H hl e_f t nt⟩
  obtain ⟨day, y1, b_d, e_d⟩ := DR.roll_ex y 5 (by omega)
  obtain ⟨v, y2, b_v, e_v⟩ := DR.roll_ex y1 4 (by omega)
  obtain ⟨many, y3, b_m, e_m⟩ := DR.roll_ex y2 12 (by omega)
  refine ⟨y3, ?_⟩
  have four : v = 0 ∨ v = 1 ∨ v = 2 ∨ v = 3 := by omega
  have nn : ∀ {p q : Prop} [Decidable p] [Decidable q] , (p ↔ ¬ q) → (!decide p) = decide q := fun {p q} _ _ h => by
    by_cases hq : q
    · rw [decide_eq_true hq, decide_eq_false fun z => h.mp z hq]; rfl
    · rw [decide_eq_false hq, decide_eq_true (h.mpr hq)]; rfl
  rcases four with rfl | rfl | rfl | rfl
  · refine deed_of x H hl e_f hf e_d e_v e_m b_d b_m atI_0 (vb4 _ _) deeds_in.1 ?_
    rw [decide_eq_false bg, decide_eq_false bf, decide_eq_true (by omega : many ≤ 99)]
    rfl
  · refine deed_of x H hl e_f hf e_d e_v e_m b_d b_m atI_1 (vg4 _ _) deeds_in.2.1 ?_
    rw [decide_eq_true (rfl : ("grind" : Str) = "grind"), decide_eq_false gf, Bool.true_and, Bool.false_and, Bool.not_false, Bool.and_true]
    exact nn (by omega)
  · refine deed_of x H hl e_f hf e_d e_v e_m b_d b_m atI_2 (vf4 _ _) deeds_in.2.2.1 ?_
    rw [decide_eq_true (rfl : ("fetch" : Str) = "fetch"), decide_eq_false fg, Bool.true_and, Bool.false_and, Bool.not_false, Bool.true_and]
    exact nn (by omega)
  · refine .no _ (.inl (no_row (wdr b_d b_m odd_wd) ⟨b_d.1, by show day < 1000; omega⟩ ⟨b_m.1, by show many < 1000; omega⟩ (.inl deeds_in.2.2.2))) fun t nt => ?_
    refine tell_due x H hl e_f hf e_d e_v e_m b_d b_m atI_3 (vo4 _ _) odd_wd (b := false) ?_ (fun z => by cases z) t nt
    by_cases c2 : 1 ≤ many
    · rw [decide_eq_false (by omega : ¬ many ≤ 0), Bool.and_false, Bool.and_false]
    · rw [decide_eq_false c2, Bool.false_and, Bool.and_false]
theorem ask0 {s s' : DS} {o : DL.R D} (n : noCloL s = true) {t : Str} {dd uu : List (Str × Str)} (D0 : Dk s t dd uu) (e : m_Desk_strike [.han 1] s = o) : m_law_desk [.clo 0 [.han 1]] s = toldK toldL o := by
  obtain ⟨a, b, h1, _⟩ := D0.ex
  have d := deref_get h1
  have q : m_law_desk [.clo 0 [.han 1]] s = toldD toldL FB_0 (mkEnv 11 [0] [.han 1]) s := if_pos (by rw [n]; rfl)
  have f : FB_0 [.v (.han 1), .no, .no, .no, .no, .no, .no, .no, .no, .no, .no] s = o := by
    unfold FB_0
    simp_arith [isStr_s, opAdd_ss, lenO_s, strO_s, d, e]
  rw [q, toldD_eq, ← f]
  rfl
theorem ask1 {s : DS} {o : DL.R D} {z : Str} (n : noCloL s = true) {t : Str} {dd uu : List (Str × Str)} (D0 : Dk s t dd uu) (e : m_Desk_tell [.han 1, .str z] s = o) : m_law_desk [.clo 1 [.han 1, .str z]] s = toldK toldL o := by
  obtain ⟨a, b, h1, _⟩ := D0.ex
  have d := deref_get h1
  have q : m_law_desk [.clo 1 [.han 1, .str z]] s = toldD toldL FB_1 (mkEnv 11 [0, 7] [.han 1, .str z]) s := if_pos (by rw [n]; rfl)
  have f : FB_1 [.v (.han 1), .no, .no, .no, .no, .no, .no, .v (.str z), .no, .no, .no] s = o := by
    unfold FB_1
    simp_arith [isStr_s, opAdd_ss, lenO_s, strO_s, d, e]
  rw [q, toldD_eq, ← f]
  rfl
end L19
set_option Elab.async false
set_option linter.all false
set_option maxRecDepth 100000
set_option maxHeartbeats 4000000
namespace L19
open PySem L2 DL DR Kk19
def prs : List Str → List (Str × Str)
  | a :: b :: l => (a, b) :: prs (b :: l)
  | _ => []
theorem prs_len : ∀ l : List Str, (prs l).length ≤ l.length
  | [] => Nat.le_refl _
  | [a] => Nat.zero_le _
  | a :: b :: l => by
    have := prs_len (b :: l)
    show (prs (b :: l)).length + 1 ≤ (b :: l).length + 1
    omega
theorem prs_snoc (a b : Str) : ∀ l : List Str, prs (l ++ [a, b]) = prs (l ++ [a]) ++ [(a, b)]
  | [] => rfl
  | [c] => rfl
  | c :: d :: l => by
    have := prs_snoc a b (d :: l)
    show (c, d) :: prs (d :: l ++ [a, b]) = (c, d) :: prs (d :: l ++ [a]) ++ [(a, b)]
    rw [this]
    rfl
abbrev Rws := List Rw
abbrev pstD (L : List Rws) : D := .lst (L.map fun rows => D.str (T rows))
structure Zp (n : Nat) (s : DS) (A : List Rws) (c : Rws) (B : List Rws) : Prop where
  dk : Dk s (T c) (prs ((A ++ [c]).map T)) (prs ((c :: B).map T)).reverse
  ok : ∀ rows ∈ A ++ c :: B, (∀ r ∈ rows, OkA r) ∧ Good rows ∧ rows.length ≤ 3 + n
  len : A.length + B.length ≤ n
section
variable {n : Nat} {s : DS} {A B : List Rws} {c a b : Rws}
theorem Zp.up (Z : Zp n s A c B) : Zp (n + 1) s A c B := ⟨Z.dk, fun rows h => by
  obtain ⟨h1, h2, h3⟩ := Z.ok rows h
  exact ⟨h1, h2, by omega⟩, by have := Z.len; omega⟩
theorem Zp.roll {x y : Dc} {t : DS} (Z : Zp n (x.d :: t) A c B) : Zp n (y.d :: t) A c B := ⟨Z.dk.roll rfl, Z.ok, Z.len⟩
theorem Zp.cur (Z : Zp n s A c B) : (∀ r ∈ c, OkA r) ∧ Good c ∧ c.length ≤ 3 + n := Z.ok c (by simp)
theorem Zp.dl (Z : Zp n s A c B) : (prs ((A ++ [c]).map T)).length ≤ n + 1 ∧ (prs ((c :: B).map T)).reverse.length ≤ n + 1 := by
  have h1 := prs_len ((A ++ [c]).map T)
  have h2 := prs_len ((c :: B).map T)
  have h3 := Z.len
  rw [List.length_map, List.length_append] at h1
  rw [List.length_map] at h2
  rw [List.length_reverse]
  have h1 : _ ≤ A.length + 1 := h1
  have h2 : _ ≤ B.length + 1 := h2
  omega
theorem prs_two (A : List Rws) (a c : Rws) : prs ((A ++ [a] ++ [c]).map T) = prs ((A ++ [a]).map T) ++ [(T a, T c)] := by
  have := prs_snoc (T a) (T c) (A.map T)
  rw [List.map_append, List.map_append, List.append_assoc]
  exact this
theorem prs_rev (c b : Rws) (B : List Rws) : (prs ((c :: b :: B).map T)).reverse = (prs ((b :: B).map T)).reverse ++ [(T c, T b)] := by
  show ((T c, T b) :: prs ((b :: B).map T)).reverse = _
  rw [List.reverse_cons]
theorem Zp.undo (Z : Zp n s (A ++ [a]) c B) (hn : n ≤ 20) : ∃ s', m_Desk_undo [.han 1] s = .ok .non s' ∧ Zp n s' A a (c :: B) ∧ s'[0]? = s[0]? := by
  have dk := Z.dk
  rw [prs_two] at dk
  obtain ⟨s', e, D1, z⟩ := undo_ok dk (by have := Z.dl.2; omega)
  rw [← prs_rev] at D1
  refine ⟨s', e, ⟨D1, fun rows h => Z.ok rows (by simpa using h), ?_⟩, z⟩
  have := Z.len
  rw [List.length_append] at this
  have : A.length + 1 + B.length ≤ n := this
  show A.length + (B.length + 1) ≤ n
  omega
theorem Zp.undo_no (Z : Zp n s [] c B) : m_Desk_undo [.han 1] s = .ex 2 [] s := L19.undo_no Z.dk
theorem Zp.redo (Z : Zp n s A c (b :: B)) (hn : n ≤ 20) : ∃ s', m_Desk_redo [.han 1] s = .ok .non s' ∧ Zp n s' (A ++ [c]) b B ∧ s'[0]? = s[0]? := by
  have dk := Z.dk
  rw [prs_rev] at dk
  obtain ⟨s', e, D1, z⟩ := redo_ok dk (by have := Z.dl.1; omega)
  rw [← prs_two] at D1
  refine ⟨s', e, ⟨D1, fun rows h => Z.ok rows (by simpa using h), ?_⟩, z⟩
  have := Z.len
  have : A.length + (B.length + 1) ≤ n := this
  rw [List.length_append]
  show A.length + 1 + B.length ≤ n
  omega
theorem Zp.redo_no (Z : Zp n s A c []) : m_Desk_redo [.han 1] s = .ex 2 [] s := L19.redo_no Z.dk
/-- a new deed -/
theorem Zp.new {s' : DS} {c' : Rws} (Z : Zp n s A c B) (D1 : Dk s' (T c') (prs ((A ++ [c]).map T) ++ [(T c, T c')]) []) (h : (∀ r ∈ c', OkA r) ∧ Good c' ∧ c'.length ≤ 3 + (n + 1)) : Zp (n + 1) s' (A ++ [c]) c' [] := by
  rw [← prs_two] at D1
  refine ⟨D1, fun rows hr => ?_, ?_⟩
  · rcases List.mem_append.mp hr with q | q
    · obtain ⟨h1, h2, h3⟩ := Z.ok rows (by
        rcases List.mem_append.mp q with q | q
        · exact List.mem_append_left _ q
        · rw [List.mem_singleton.mp q]; simp)
      exact ⟨h1, h2, by omega⟩
    · rw [List.mem_singleton.mp q]
      exact h
  · have := Z.len
    rw [List.length_append]
    show A.length + 1 + 0 ≤ n + 1
    omega
end
theorem cons_of {s' t : DS} {d : D} (h : s'[0]? = (d :: t)[0]?) : ∃ t', s' = d :: t' := by
  cases s' with
  | nil => cases h
  | cons e t' =>
    have : e = d := Option.some.inj h
    exact ⟨t', by rw [this]⟩
abbrev eS (k past place now gap fine reply deed due : Sl) : DL.Env := [.no, .v (.han 0), .v (.han 1), k, .no, .no, past, place, now, gap, fine, reply, deed, due]
theorem pst_at (A : List Rws) (c : Rws) (B : List Rws) : atI ((A ++ c :: B).map fun rows => D.str (T rows)) (A.length : Int) = some (.str (T c)) := by
  rw [atI_ofNat (by omega) (by simp; omega), Int.toNat_natCast, List.map_append, List.getElem?_append_right (by simp)]
  simp
def dueD (b : Bool) : D := if b = true then .non else .str "due"
/-- what a turn's deed leaves -/
structure Mv (n : Nat) (F : F) : Prop where
  ex : ∃ (x : Dc) (t : DS) (A : List Rws) (c : Rws) (B : List Rws) (b : Bool) (k g1 g2 g3 g4 : Sl), F = .nx (eS k (.v (pstD (A ++ c :: B))) (.v (.int A.length)) g1 g2 (.v (.bl b)) (.v (dueD b)) g3 g4) (x.d :: t) ∧ Zp n (x.d :: t) A c B
theorem back_ok (x : Dc) {n : Nat} {t : DS} {A B : List Rws} {c : Rws} (Z : Zp n (x.d :: t) A c B) (hn : n ≤ 8) (k now : Sl) :
    Mv (n + 1) (seqB S_law_0x_2x_1a_0 (seqB S_law_0x_2x_1a_1 (seqB S_law_0x_2x_1a_2 S_law_0x_2x_1a_3)) (eS k (.v (pstD (A ++ c :: B))) (.v (.int A.length)) now .no .no .no .no .no) (x.d :: t)) := by
  obtain ⟨g, y, b_g, e_g⟩ := DR.roll_ex x 2 (by omega)
  have Z1 : Zp n (y.d :: t) A c B := Z.roll
  have two : g = 0 ∨ g = 1 := by omega
  have hl : (A ++ c :: B).length = A.length + B.length + 1 := by rw [List.length_append, List.length_cons]; omega
  obtain ⟨L, hL⟩ : ∃ L, L = (A ++ c :: B).map fun rows => D.str (T rows) := ⟨_, rfl⟩
  have lL : L.length = A.length + B.length + 1 := by rw [hL, List.length_map, hl]
  have hP : pstD (A ++ c :: B) = .lst L := by rw [hL]
  obtain ⟨p, hp⟩ : ∃ p : Int, p = A.length := ⟨_, rfl⟩
  have hz := Z.len
  obtain ⟨ai, bi, h1, _⟩ := Z1.dk.ex
  have d := deref_get h1
  rw [hP, ← hp]
  rcases two with rfl | rfl
  · rcases List.eq_nil_or_concat A with hA | ⟨A', a, hA⟩
    · subst hA
      have e := Z1.undo_no
      obtain rfl : p = 0 := hp
      refine ⟨y, t, [], c, B, false, k, now, .v (.int (-1)), .no, .no, ?_, Z1.up⟩
      unfold S_law_0x_2x_1a_0 S_law_0x_2x_1a_1 S_law_0x_2x_1a_2 S_law_0x_2x_1a_2a_0 S_law_0x_2x_1a_3
      simp_arith [isStr_s, opAdd_ss, lenO_s, strO_s, told_2, told_ok, toldD_eq, e_g, e, d]
      rw [hL]
      rfl
    · rw [List.concat_eq_append] at hA
      subst hA
      obtain ⟨s', e, Z2, z⟩ := Z1.undo (by omega)
      obtain ⟨t', rfl⟩ := cons_of z
      rw [List.length_append] at hp lL
      have hp : p = ((A'.length + 1 : Nat) : Int) := hp
      have lL : L.length = A'.length + 1 + B.length + 1 := lL
      have q1 : 0 ≤ p + -1 := by omega
      have q2 : p + -1 < (L.length : Nat) := by omega
      have q3 : p + -1 = A'.length := by omega
      refine ⟨y, t', A', a, c :: B, true, k, now, .v (.int (-1)), .no, .no, ?_, Z2.up⟩
      unfold S_law_0x_2x_1a_0 S_law_0x_2x_1a_1 S_law_0x_2x_1a_2 S_law_0x_2x_1a_2a_0 S_law_0x_2x_1a_3
      simp_arith [isStr_s, opAdd_ss, lenO_s, strO_s, told_2, told_ok, toldD_eq, e_g, e, d, q1, q2]
      rw [q3, hL, List.append_assoc]
      rfl
  · cases B with
    | nil =>
      have e := Z1.redo_no
      have lL : L.length = A.length + 0 + 1 := lL
      have q1 : 0 ≤ p + 1 := by omega
      have q2 : ¬ (p + 1 < (L.length : Nat)) := by omega
      refine ⟨y, t, A, c, [], false, k, now, .v (.int 1), .no, .no, ?_, Z1.up⟩
      unfold S_law_0x_2x_1a_0 S_law_0x_2x_1a_1 S_law_0x_2x_1a_2 S_law_0x_2x_1a_2b_0 S_law_0x_2x_1a_3
      simp_arith [isStr_s, opAdd_ss, lenO_s, strO_s, told_2, told_ok, toldD_eq, e_g, e, d, q1, q2]
      rw [hL, hp]
      rfl
    | cons b B =>
      obtain ⟨s', e, Z2, z⟩ := Z1.redo (by omega)
      obtain ⟨t', rfl⟩ := cons_of z
      have lL : L.length = A.length + (B.length + 1) + 1 := lL
      have q1 : 0 ≤ p + 1 := by omega
      have q2 : p + 1 < (L.length : Nat) := by omega
      have q3 : p + 1 = ((A.length + 1 : Nat) : Int) := by omega
      refine ⟨y, t', A ++ [c], b, B, true, k, now, .v (.int 1), .no, .no, ?_, Z2.up⟩
      unfold S_law_0x_2x_1a_0 S_law_0x_2x_1a_1 S_law_0x_2x_1a_2 S_law_0x_2x_1a_2b_0 S_law_0x_2x_1a_3
      simp_arith [isStr_s, opAdd_ss, lenO_s, strO_s, told_2, told_ok, toldD_eq, e_g, e, d, q1, q2]
      rw [q3, hL, List.append_assoc]
      rfl
end L19
set_option Elab.async false
set_option linter.all false
set_option maxRecDepth 100000
set_option maxHeartbeats 4000000
namespace L19
open PySem L2 DL DR Kk19
theorem nc_pstL (L : List Rws) : noCloL (L.map fun rows => D.str (T rows)) = true := by
  induction L with
  | nil => rfl
  | cons r l ih => exact ih
theorem wcB_is {g : DL.Env → DS → F} {η η' : DL.Env} {s s' : DS} (h0 : noCloL s = true) (hm : mask η = η) (e : g η s = .nx η' s') (h1 : noCloL s' = true) : wcB g η s = .nx (mask η') s' := by
  unfold wcB
  rw [if_pos h0, hm, e]
  exact if_pos h1
theorem mask_1 {k : Int} {L : List D} {p : Int} {w : Str} (h : noCloL L = true) : mask (eS (.v (.int k)) (.v (.lst L)) (.v (.int p)) (.v (.str w)) .no .no .no .no .no) = eS (.v (.int k)) (.v (.lst L)) (.v (.int p)) (.v (.str w)) .no .no .no .no .no := by
  have q : maskS (.v (.lst L)) = .v (.lst L) := if_pos h
  simp only [mask, List.map_cons, List.map_nil, q]
  rfl
theorem mask_2 {k : Int} {L : List D} {p : Int} {w z : Str} {b : Bool} {j : Nat} {dv : List D} (h : noCloL L = true) : mask (eS (.v (.int k)) (.v (.lst L)) (.v (.int p)) (.v (.str w)) .no (.v (.bl b)) (.v (dueD b)) (.v (.clo j dv)) (.v (.str z))) = eS (.v (.int k)) (.v (.lst L)) (.v (.int p)) (.v (.str w)) .no (.v (.bl b)) (.v (dueD b)) .no (.v (.str z)) := by
  have q : maskS (.v (.lst L)) = .v (.lst L) := if_pos h
  simp only [mask, List.map_cons, List.map_nil, q]
  cases b <;> rfl
section
variable {x x' : Dc} {t s' : DS} {L : List D} {p : Int} {w due : Str} {j : Nat} {dv : List D} {k : Sl}
theorem forth_t (e_d : m_law_deed [.han 1, .han 0, .str w] (x.d :: t) = .ok (.tup [.clo j dv, .str due]) (x'.d :: t)) (e_q : m_law_desk [.clo j dv] (x'.d :: t) = .ok .non s') (en : opNe (.str due) (.str w) = some (.bl true)) (hp : 0 ≤ p + 1) (hl : L.length ≤ 100) :
    seqB S_law_0x_2x_1b_0 (seqB S_law_0x_2x_1b_1 (seqB S_law_0x_2x_1b_2 S_law_0x_2x_1b_3)) (eS k (.v (.lst L)) (.v (.int p)) (.v (.str w)) .no .no .no .no .no) (x.d :: t) = .nx (eS k (.v (.lst (L.take (p + 1).toNat ++ [.str due]))) (.v (.int (p + 1))) (.v (.str w)) .no (.v (.bl true)) (.v (dueD true)) (.v (.clo j dv)) (.v (.str due))) s' := by
  have l1 : (L.take (p + 1).toNat).length + 1 ≤ 16777216 := by
    rw [List.length_take]
    omega
  unfold S_law_0x_2x_1b_0 S_law_0x_2x_1b_1 S_law_0x_2x_1b_2 S_law_0x_2x_1b_3 S_law_0x_2x_1b_3a_0
  simp_arith [isStr_s, opAdd_ss, lenO_s, strO_s, told_2, told_ok, toldD_eq, e_d, e_q, en, hp, l1]
  rfl
theorem forth_f (e_d : m_law_deed [.han 1, .han 0, .str w] (x.d :: t) = .ok (.tup [.clo j dv, .str due]) (x'.d :: t)) (e_q : m_law_desk [.clo j dv] (x'.d :: t) = .ok (.str "due") s') (en : opNe (.str due) (.str w) = some (.bl false)) :
    seqB S_law_0x_2x_1b_0 (seqB S_law_0x_2x_1b_1 (seqB S_law_0x_2x_1b_2 S_law_0x_2x_1b_3)) (eS k (.v (.lst L)) (.v (.int p)) (.v (.str w)) .no .no .no .no .no) (x.d :: t) = .nx (eS k (.v (.lst L)) (.v (.int p)) (.v (.str w)) .no (.v (.bl false)) (.v (dueD false)) (.v (.clo j dv)) (.v (.str due))) s' := by
  unfold S_law_0x_2x_1b_0 S_law_0x_2x_1b_1 S_law_0x_2x_1b_2 S_law_0x_2x_1b_3
  simp_arith [isStr_s, opAdd_ss, lenO_s, strO_s, told_2, told_ok, toldD_eq, e_d, e_q, en]
  rfl
end
theorem forth_ok (x : Dc) {n : Nat} {t : DS} {A B : List Rws} {c : Rws} (Z : Zp n (x.d :: t) A c B) (hn : n ≤ 8) (k : Int) :
    Mv (n + 1) (wcB (seqB S_law_0x_2x_1b_0 (seqB S_law_0x_2x_1b_1 (seqB S_law_0x_2x_1b_2 S_law_0x_2x_1b_3))) (eS (.v (.int k)) (.v (pstD (A ++ c :: B))) (.v (.int A.length)) (.v (.str (T c))) .no .no .no .no .no) (x.d :: t)) := by
  obtain ⟨Hc, gc, lc⟩ := Z.cur
  have H2 := OkA.all Hc
  have sk := T_sok H2
  obtain ⟨x', dd⟩ := deed_ok x Hc (by omega)
  have Z1 : Zp n (x'.d :: t) A c B := Z.roll
  have nt : noCloL t = true := by
    have := Z.dk.nc
    unfold noCloL at this
    rw [Bool.and_eq_true] at this
    exact this.2
  have n1 : noCloL (x'.d :: t) = true := Z1.dk.nc
  have hz := Z.len
  have hlen : ((A ++ c :: B).map fun rows => D.str (T rows)).length ≤ 100 := by
    rw [List.length_map, List.length_append, List.length_cons]
    omega
  have tk : ((A ++ c :: B).map fun rows => D.str (T rows)).take ((A.length : Int) + 1).toNat = (A ++ [c]).map fun rows => D.str (T rows) := by
    have e : ((A.length : Int) + 1).toNat = (A ++ [c]).length := by rw [List.length_append]; show _ = A.length + 1; omega
    rw [e, ← List.map_take, show A ++ c :: B = (A ++ [c]) ++ B by simp, List.take_left]
  have nL := nc_pstL (A ++ c :: B)
  have fin_t : ∀ {c' : Rws} {j : Nat} {dv : List D} {s' : DS}, m_law_deed [.han 1, .han 0, .str (T c)] (x.d :: t) = .ok (.tup [.clo j dv, .str (T c')]) (x'.d :: t) → m_law_desk [.clo j dv] (x'.d :: t) = .ok .non s' → T c' ≠ T c → Dk s' (T c') (prs ((A ++ [c]).map T) ++ [(T c, T c')]) [] →
      s'[0]? = (x'.d :: t)[0]? → (∀ r ∈ c', OkA r) ∧ Good c' ∧ c'.length ≤ 3 + (n + 1) → Mv (n + 1) (wcB (seqB S_law_0x_2x_1b_0 (seqB S_law_0x_2x_1b_1 (seqB S_law_0x_2x_1b_2 S_law_0x_2x_1b_3))) (eS (.v (.int k)) (.v (pstD (A ++ c :: B))) (.v (.int A.length)) (.v (.str (T c))) .no .no .no .no .no) (x.d :: t)) := fun {c' j dv s'} e_d e_q ne D1 z h => by
    have Z2 := Z1.new D1 h
    obtain ⟨t', rfl⟩ := cons_of z
    have en : opNe (.str (T c')) (.str (T c)) = some (.bl true) := by rw [ne_s (T_sok (OkA.all h.1)) sk, decide_eq_false ne]; rfl
    have e := forth_t (k := .v (.int k)) (p := A.length) e_d e_q en (by omega) hlen
    have w := wcB_is Z.dk.nc (mask_1 nL) e Z2.dk.nc
    rw [tk] at w
    have e2 : ((A ++ [c]).map fun rows => D.str (T rows)) ++ [.str (T c')] = (A ++ [c] ++ c' :: []).map fun rows => D.str (T rows) := by
      rw [List.map_append (l₁ := A ++ [c])]
      rfl
    rw [e2, mask_2 (nc_pstL _)] at w
    have el : ((A.length : Int) + 1) = ((A ++ [c]).length : Nat) := by rw [List.length_append]; rfl
    rw [el] at w
    exact ⟨x', t', A ++ [c], c', [], true, _, _, _, _, _, w, Z2⟩
  have fin_f : ∀ {j : Nat} {dv : List D} {s' : DS}, m_law_deed [.han 1, .han 0, .str (T c)] (x.d :: t) = .ok (.tup [.clo j dv, .str (T c)]) (x'.d :: t) → m_law_desk [.clo j dv] (x'.d :: t) = .ok (.str "due") s' → Dk s' (T c) (prs ((A ++ [c]).map T)) (prs ((c :: B).map T)).reverse →
      s'[0]? = (x'.d :: t)[0]? → Mv (n + 1) (wcB (seqB S_law_0x_2x_1b_0 (seqB S_law_0x_2x_1b_1 (seqB S_law_0x_2x_1b_2 S_law_0x_2x_1b_3))) (eS (.v (.int k)) (.v (pstD (A ++ c :: B))) (.v (.int A.length)) (.v (.str (T c))) .no .no .no .no .no) (x.d :: t)) := fun {j dv s'} e_d e_q D1 z => by
    have Z2 : Zp n s' A c B := ⟨D1, Z.ok, Z.len⟩
    obtain ⟨t', rfl⟩ := cons_of z
    have en : opNe (.str (T c)) (.str (T c)) = some (.bl false) := by rw [ne_s sk sk, decide_eq_true rfl]; rfl
    have e := forth_f (k := .v (.int k)) (p := A.length) (L := (A ++ c :: B).map fun rows => D.str (T rows)) e_d e_q en
    have w := wcB_is Z.dk.nc (mask_1 nL) e Z2.dk.nc
    rw [mask_2 nL] at w
    exact ⟨x', t', A, c, B, false, _, _, _, _, _, w, Z2.up⟩
  rcases dd with e_d | ⟨r, hr, ha, e_d⟩ | ⟨r, hz, e_d⟩
  · have e_d := e_d t nt
    rcases List.eq_nil_or_concat c with hc | ⟨pre, l, hc⟩
    · subst hc
      obtain ⟨s', e, D1, z⟩ := strike_no Z1.dk
      exact fin_f e_d (ask0 (s' := s') n1 Z1.dk e) D1 z
    · rw [List.concat_eq_append] at hc
      subst hc
      rw [List.dropLast_concat] at e_d
      have dk := Z1.dk
      rw [List.length_append] at lc
      have lc : pre.length + 1 ≤ 3 + n := lc
      obtain ⟨s', e, D1, z⟩ := strike_ok dk Hc (by omega) gc (by have := Z1.dl.1; omega)
      exact fin_t e_d (ask0 (s' := s') n1 dk e) (Ne.symm (T_ne (H2 l (by simp)))) D1 z ⟨fun r hr => Hc r (List.mem_append_left _ hr), good_pre gc, by omega⟩
  · have e_d := e_d t nt
    have H3 : ∀ z ∈ c ++ [r], OkA z := fun z hz => by
      rcases List.mem_append.mp hz with q | q
      · exact Hc z q
      · rw [List.mem_singleton.mp q]; exact hr
    have g3 := good_snoc gc ha
    obtain ⟨s', e, D1, z⟩ := tell_ok Z1.dk H3 (by omega) g3 (by have := Z1.dl.1; omega)
    exact fin_t e_d (ask1 n1 Z1.dk e) (T_ne hr.ok) D1 z ⟨H3, g3, by rw [List.length_append]; show c.length + 1 ≤ _; omega⟩
  · have e_d := e_d t nt
    obtain ⟨s', e, D1, z⟩ := tell_no Z1.dk Hc (by omega) gc hz
    exact fin_f e_d (ask1 n1 Z1.dk e) D1 z
end L19
set_option Elab.async false
set_option linter.all false
set_option maxRecDepth 100000
set_option maxHeartbeats 4000000
namespace L19
open PySem L2 DL DR Kk19
theorem q0_ok {L : List D} {p : Int} {z : Str} (h : atI L p = some (.str z)) (k : Sl) (s : DS) : S_law_0x_2x_0 (eS k (.v (.lst L)) (.v (.int p)) .no .no .no .no .no .no) s = .nx (eS k (.v (.lst L)) (.v (.int p)) (.v (.str z)) .no .no .no .no .no) s := by
  unfold S_law_0x_2x_0
  simp_arith [isStr_s, opAdd_ss, lenO_s, strO_s, told_2, told_ok, toldD_eq, inHD_eq, inHK_nx, inHK_ex, get_last, set_last, deref_last, h]
theorem q1_ok (x : Dc) {n : Nat} {t : DS} {A B : List Rws} {c : Rws} (Z : Zp n (x.d :: t) A c B) (hn : n ≤ 8) (k : Int) :
    Mv (n + 1) (S_law_0x_2x_1 (eS (.v (.int k)) (.v (pstD (A ++ c :: B))) (.v (.int A.length)) (.v (.str (T c))) .no .no .no .no .no) (x.d :: t)) := by
  obtain ⟨f, y, b_f, e_f⟩ := DR.roll_ex x 4 (by omega)
  have q : tstD (bopD opEq (callD (gateD 2 m_law_roll) (consA (vD 1) (consA (cD (.int 4)) (nilA)))) (cD (.int 0))) (eS (.v (.int k)) (.v (pstD (A ++ c :: B))) (.v (.int A.length)) (.v (.str (T c))) .no .no .no .no .no) (x.d :: t) = .ok (decide (f = 0)) (y.d :: t) := by
    simp_arith [isStr_s, opAdd_ss, lenO_s, strO_s, told_2, told_ok, toldD_eq, inHD_eq, inHK_nx, inHK_ex, get_last, set_last, deref_last, e_f]
  unfold S_law_0x_2x_1
  rw [ifB_eq, q, toF_ok]
  by_cases h : f = 0
  · rw [decide_eq_true h, if_pos rfl]
    exact back_ok y Z.roll hn _ _
  · rw [decide_eq_false h, if_neg Bool.false_ne_true]
    exact forth_ok y Z.roll hn k
theorem q2_ok {x : Dc} {n : Nat} {t : DS} {A B : List Rws} {c : Rws} (Z : Zp n (x.d :: t) A c B) (b : Bool) (k g1 g2 g3 g4 : Sl) :
    S_law_0x_2x_2 (eS k (.v (pstD (A ++ c :: B))) (.v (.int A.length)) g1 g2 (.v (.bl b)) (.v (dueD b)) g3 g4) (x.d :: t) = .nx (eS k (.v (pstD (A ++ c :: B))) (.v (.int A.length)) g1 g2 (.v (.bl b)) (.v (dueD b)) g3 g4) (x.d :: t) := by
  obtain ⟨a1, b1, h1, _⟩ := Z.dk.ex
  have d := deref_get h1
  have sk := T_sok (OkA.all Z.cur.1)
  have en : opNe (.str (T c)) (.str (T c)) = some (.bl false) := by rw [ne_s sk sk, decide_eq_true rfl]; rfl
  have ed : opNe (.str "due") (.str "due") = some (.bl false) := by rw [ne_s (by decide +kernel) (by decide +kernel), decide_eq_true rfl]; rfl
  have at0 := pst_at A c B
  cases b with
  | true =>
    have e : dueD true = .non := rfl
    rw [e]
    unfold S_law_0x_2x_2
    simp_arith [isStr_s, opAdd_ss, lenO_s, strO_s, told_2, told_ok, toldD_eq, inHD_eq, inHK_nx, inHK_ex, get_last, set_last, deref_last, d, en, at0]
  | false =>
    have e : dueD false = .str "due" := rfl
    rw [e]
    unfold S_law_0x_2x_2
    simp_arith [isStr_s, opAdd_ss, lenO_s, strO_s, told_2, told_ok, toldD_eq, inHD_eq, inHK_nx, inHK_ex, get_last, set_last, deref_last, d, en, ed, at0]
abbrev eE (L : List Rws) (p : Nat) : DL.Env := E_law_0x_2 (.v (.han 0)) (.v (.han 1)) (.v (pstD L)) (.v (.int p))
theorem turn2_ok (x : Dc) {n : Nat} {t : DS} {A B : List Rws} {c : Rws} (Z : Zp n (x.d :: t) A c B) (hn : n ≤ 8) (k : Int) :
    ∃ (x' : Dc) (t' : DS) (A' B' : List Rws) (c' : Rws), turnF (gN 3) L_law_0x_2 (.int k) (eE (A ++ c :: B) A.length) (x.d :: t) = .nx (eE (A' ++ c' :: B') A'.length) (x'.d :: t') ∧ Zp (n + 1) (x'.d :: t') A' c' B' := by
  have a0 := q0_ok (pst_at A c B) (.v (.int k)) (x.d :: t)
  obtain ⟨x', t', A', c', B', b, k', g1, g2, g3, g4, a1, Z'⟩ := (q1_ok x Z hn k).ex
  have a2 := q2_ok Z' b k' g1 g2 g3 g4
  refine ⟨x', t', A', B', c', ?_, Z'⟩
  have b0 : turnF (gN 3) L_law_0x_2 (.int k) (eE (A ++ c :: B) A.length) (x.d :: t) = (seqB S_law_0x_2x_0 (seqB S_law_0x_2x_1 S_law_0x_2x_2) (eS (.v (.int k)) (.v (pstD (A ++ c :: B))) (.v (.int A.length)) .no .no .no .no .no .no) (x.d :: t)).wip [false, true, true, false, false, false, true, true, false, false, false, false, false, false] := rfl
  rw [b0, seqB_eq, a0, then_nx, seqB_eq, a1, then_nx, a2]
  rfl
theorem loop2_ok (x : Dc) {t : DS} {c : Rws} (Z : Zp 0 (x.d :: t) [] c []) (N : Nat) (hN : N ≤ 8) : ∃ (x' : Dc) (t' : DS) (A' B' : List Rws) (c' : Rws), forF (gN 3) L_law_0x_2 (rngL 0 N) (eE [c] 0) (x.d :: t) = .nx (eE (A' ++ c' :: B') A'.length) (x'.d :: t') ∧ Zp 8 (x'.d :: t') A' c' B' := by
  obtain ⟨η2, s2, e, x', t', A', B', c', h1, h2, h3⟩ := forF_rel (put := gN 3) (f := L_law_0x_2) (η := eE [c] 0) (s := x.d :: t) (fun (pre : List Nat) η s => ∃ (x' : Dc) (t' : DS) (A' B' : List Rws) (c' : Rws), η = eE (A' ++ c' :: B') A'.length ∧ s = x'.d :: t' ∧ Zp pre.length (x'.d :: t') A' c' B')
    (fun i => D.int (0 + (i : Int))) (List.range N) ⟨x, t, [], [], c, rfl, rfl, Z⟩ fun pre a post η s e ⟨x', t', A', B', c', h1, h2, h3⟩ => by
    have hp : pre.length ≤ 8 := by
      have := congrArg List.length e
      simp at this
      omega
    subst h1 h2
    obtain ⟨x2, t2, A2, B2, c2, e2, I2⟩ := turn2_ok x' h3 hp (0 + (a : Int))
    refine ⟨_, _, e2, x2, t2, A2, B2, c2, rfl, rfl, ?_⟩
    rw [List.length_append, List.length_singleton]
    exact I2
  subst h1 h2
  rw [List.length_range] at h3
  refine ⟨x', t', A', B', c', ?_, ?_⟩
  · rw [rngL_map]
    exact e
  · exact ⟨h3.dk, fun rows h => by
      obtain ⟨q1, q2, q3⟩ := h3.ok rows h
      exact ⟨q1, q2, by omega⟩, by have := h3.len; omega⟩
def r1 : Rw := ⟨1, "bring", "ann", "rye", 12⟩
def r2 : Rw := ⟨1, "grind", "ann", "rye", 8⟩
def r3 : Rw := ⟨2, "fetch", "ann", "rye", 5⟩
def R0 : Rws := [r1, r2, r3]
theorem T_R0 : T R0 = "1 bring ann rye 12\n1 grind ann rye 8\n2 fetch ann rye 5" := by kernel_rfl
theorem R0_ok : ∀ r ∈ R0, OkA r := fun r hr => by
  have : r = r1 ∨ r = r2 ∨ r = r3 := by simpa [R0] using hr
  rcases this with rfl | rfl | rfl
  · exact ⟨⟨by decide, by decide +kernel, ann_wd, rye_wd, by decide⟩, rfl, rfl⟩
  · exact ⟨⟨by decide, by decide +kernel, ann_wd, rye_wd, by decide⟩, rfl, rfl⟩
  · exact ⟨⟨by decide, by decide +kernel, ann_wd, rye_wd, by decide⟩, rfl, rfl⟩
theorem R0_good : Good R0 := by
  have g0 : Good [] := fun pre r post e => by simp at e
  have g1 : Good ([] ++ [r1]) := good_snoc g0 (by kernel_rfl)
  have g2 : Good ([r1] ++ [r2]) := good_snoc g1 (by kernel_rfl)
  exact good_snoc (rows := [r1, r2]) g2 (by kernel_rfl)
theorem s0_ok (x : Dc) : S_law_0x_0 [.no, .v (.han 0), .no, .no, .no, .no, .no, .no, .no, .no, .no, .no, .no, .no] [x.d] = .nx [.no, .v (.han 0), .v (.han 1), .no, .no, .no, .no, .no, .no, .no, .no, .no, .no, .no] [x.d, .obj 2 [.str (T R0), .han 2, .han 3], .lst [], .lst []] := by
  rw [T_R0]
  unfold S_law_0x_0 m_Desk_init B_Desk_init
  simp_arith [isStr_s, opAdd_ss, lenO_s, strO_s, told_2, told_ok, toldD_eq, inHD_eq, inHK_nx, inHK_ex, get_last, set_last, deref_last]
theorem Z0 (x : Dc) : Zp 0 [x.d, .obj 2 [.str (T R0), .han 2, .han 3], .lst [], .lst []] [] R0 [] :=
  ⟨⟨⟨2, 3, rfl, rfl, rfl, by omega, by omega, by omega⟩, rfl⟩, fun rows h => by
    have : rows = R0 := by simpa using h
    rw [this]
    exact ⟨R0_ok, R0_good, Nat.le_refl _⟩, Nat.le_refl _⟩
theorem s1_ok (s : DS) (o : List D) (z : Str) (d : deref s (.han 1) = .obj 2 (.str z :: o)) : S_law_0x_1 [.no, .v (.han 0), .v (.han 1), .no, .no, .no, .no, .no, .no, .no, .no, .no, .no, .no] s = .nx (E_law_0x_2 (.v (.han 0)) (.v (.han 1)) (.v (.lst [.str z])) (.v (.int 0))) s := by
  unfold S_law_0x_1
  simp_arith [isStr_s, opAdd_ss, lenO_s, strO_s, told_2, told_ok, toldD_eq, inHD_eq, inHK_nx, inHK_ex, get_last, set_last, deref_last, d]
theorem s2_ok (x : Dc) {t : DS} {c : Rws} (Z : Zp 0 (x.d :: t) [] c []) : ∃ (x' : Dc) (t' : DS) (A' B' : List Rws) (c' : Rws), S_law_0x_2 (eE [c] 0) (x.d :: t) = .nx (eE (A' ++ c' :: B') A'.length) (x'.d :: t') ∧ Zp 8 (x'.d :: t') A' c' B' := by
  obtain ⟨N, y, b_N, e_N⟩ := DR.roll_ex x 9 (by omega)
  obtain ⟨x', t', A', B', c', e, Z'⟩ := loop2_ok y Z.roll N.toNat (by omega)
  refine ⟨x', t', A', B', c', ?_, Z'⟩
  unfold S_law_0x_2
  simp_arith [isStr_s, opAdd_ss, lenO_s, strO_s, told_2, told_ok, toldD_eq, inHD_eq, inHK_nx, inHK_ex, get_last, set_last, deref_last, e_N, e]
end L19
set_option Elab.async false
set_option linter.all false
namespace DL
/-- a table's place tells its name -/
theorem zip_u {α β : Type} : ∀ {as : List α} {bs : List β} {i : Nat} {a : α} {b : β}, as.Nodup → as[i]? = some a → bs[i]? = some b → ∀ p ∈ as.zip bs, p.1 = a → p.2 = b
  | [], _, _, _, _, _, e, _ => by simp at e
  | x :: as, [], i, a, b, nd, e, f => by simp at f
  | x :: as, y :: bs, 0, a, b, nd, e, f => fun p hp q => by
    simp at e f
    subst e f
    rw [List.zip_cons_cons, List.mem_cons] at hp
    rcases hp with rfl | hp
    · rfl
    · exact absurd (q ▸ (List.of_mem_zip hp).1) (List.nodup_cons.mp nd).1
  | x :: as, y :: bs, i + 1, a, b, nd, e, f => fun p hp q => by
    simp at e f
    rw [List.zip_cons_cons, List.mem_cons] at hp
    rcases hp with rfl | hp
    · dsimp only at q
      subst q
      exact absurd (List.mem_of_getElem? e) (List.nodup_cons.mp nd).1
    · exact zip_u (List.nodup_cons.mp nd).2 e f p hp q
end DL
set_option Elab.async false
set_option linter.all false
set_option maxRecDepth 100000
set_option maxHeartbeats 4000000
namespace L19
open PySem PySem.Spec PyProof.Rows L2 DL
def top (i : Nat) : Stmt := PySem.Challenge.pw_millhall_k19_a_desk.main.body.getD i (.Pass ⟨0, 0, 0, 0⟩)
abbrev s_Desk_init : Stmt := (inClass (top 11) 0)
abbrev s_Pages_sum_of : Stmt := (inClass (top 9) 2)
abbrev s_Pages_ready : Stmt := (inClass (top 9) 4)
abbrev s_Pages_waits : Stmt := (inClass (top 9) 3)
abbrev s_Pages_add : Stmt := (inClass (top 9) 1)
abbrev s_Line_init : Stmt := (inClass (top 7) 0)
abbrev s_Line_said : Stmt := (inClass (top 7) 1)
abbrev s_read_row : Stmt := top 8
abbrev s_Pages_init : Stmt := (inClass (top 9) 0)
abbrev s_Pages_on_floor : Stmt := (inClass (top 9) 9)
abbrev s_Desk_judged : Stmt := (inClass (top 11) 4)
abbrev s_Desk_redo : Stmt := (inClass (top 11) 6)
abbrev s_Desk_undo : Stmt := (inClass (top 11) 5)
abbrev s_Desk_note : Stmt := (inClass (top 11) 1)
abbrev s_Pages_said : Stmt := (inClass (top 9) 5)
abbrev s_Pages_without_last : Stmt := (inClass (top 9) 7)
abbrev s_Desk_strike : Stmt := (inClass (top 11) 3)
abbrev s_Pages_with_row : Stmt := (inClass (top 9) 6)
abbrev s_Desk_tell : Stmt := (inClass (top 11) 2)
abbrev s_law_roll : Stmt := top 14
abbrev s_law_sum : Stmt := top 17
abbrev s_law_deed : Stmt := top 18
abbrev s_law_desk : Stmt := top 16
abbrev s_law_dice : Stmt := top 13
abbrev s_law_rounds : Stmt := top 15
abbrev s_law : Stmt := top 19
def d_Desk_init : He.DefD := ⟨("Desk", some "__init__"), "__init__", "Desk.__init__", defArgs s_Desk_init, defBody s_Desk_init, defScope s_Desk_init, [], []⟩
def d_Pages_sum_of : He.DefD := ⟨("Pages", some "sum_of"), "sum_of", "Pages.sum_of", defArgs s_Pages_sum_of, defBody s_Pages_sum_of, defScope s_Pages_sum_of, [], []⟩
def d_Pages_ready : He.DefD := ⟨("Pages", some "ready"), "ready", "Pages.ready", defArgs s_Pages_ready, defBody s_Pages_ready, defScope s_Pages_ready, [], []⟩
def d_Pages_waits : He.DefD := ⟨("Pages", some "waits"), "waits", "Pages.waits", defArgs s_Pages_waits, defBody s_Pages_waits, defScope s_Pages_waits, [], []⟩
def d_Pages_add : He.DefD := ⟨("Pages", some "add"), "add", "Pages.add", defArgs s_Pages_add, defBody s_Pages_add, defScope s_Pages_add, [], []⟩
def d_Line_init : He.DefD := ⟨("Line", some "__init__"), "__init__", "Line.__init__", defArgs s_Line_init, defBody s_Line_init, defScope s_Line_init, [], []⟩
def d_Line_said : He.DefD := ⟨("Line", some "said"), "said", "Line.said", defArgs s_Line_said, defBody s_Line_said, defScope s_Line_said, [], []⟩
def d_read_row : He.DefD := ⟨("read_row", none), "read_row", "read_row", defArgs s_read_row, defBody s_read_row, defScope s_read_row, [], []⟩
def d_Pages_init : He.DefD := ⟨("Pages", some "__init__"), "__init__", "Pages.__init__", defArgs s_Pages_init, defBody s_Pages_init, defScope s_Pages_init, [], []⟩
def d_Pages_on_floor : He.DefD := ⟨("Pages", some "on_floor"), "on_floor", "Pages.on_floor", defArgs s_Pages_on_floor, defBody s_Pages_on_floor, defScope s_Pages_on_floor, [], []⟩
def d_Desk_judged : He.DefD := ⟨("Desk", some "judged"), "judged", "Desk.judged", defArgs s_Desk_judged, defBody s_Desk_judged, defScope s_Desk_judged, [], []⟩
def d_Desk_redo : He.DefD := ⟨("Desk", some "redo"), "redo", "Desk.redo", defArgs s_Desk_redo, defBody s_Desk_redo, defScope s_Desk_redo, [], []⟩
def d_Desk_undo : He.DefD := ⟨("Desk", some "undo"), "undo", "Desk.undo", defArgs s_Desk_undo, defBody s_Desk_undo, defScope s_Desk_undo, [], []⟩
def d_Desk_note : He.DefD := ⟨("Desk", some "note"), "note", "Desk.note", defArgs s_Desk_note, defBody s_Desk_note, defScope s_Desk_note, [], []⟩
def d_Pages_said : He.DefD := ⟨("Pages", some "said"), "said", "Pages.said", defArgs s_Pages_said, defBody s_Pages_said, defScope s_Pages_said, [], []⟩
def d_Pages_without_last : He.DefD := ⟨("Pages", some "without_last"), "without_last", "Pages.without_last", defArgs s_Pages_without_last, defBody s_Pages_without_last, defScope s_Pages_without_last, [], []⟩
def d_Desk_strike : He.DefD := ⟨("Desk", some "strike"), "strike", "Desk.strike", defArgs s_Desk_strike, defBody s_Desk_strike, defScope s_Desk_strike, [], []⟩
def d_Pages_with_row : He.DefD := ⟨("Pages", some "with_row"), "with_row", "Pages.with_row", defArgs s_Pages_with_row, defBody s_Pages_with_row, defScope s_Pages_with_row, [], []⟩
def d_Desk_tell : He.DefD := ⟨("Desk", some "tell"), "tell", "Desk.tell", defArgs s_Desk_tell, defBody s_Desk_tell, defScope s_Desk_tell, [], []⟩
def d_law_roll : He.DefD := ⟨("_law_roll", none), "_law_roll", "_law_roll", defArgs s_law_roll, defBody s_law_roll, defScope s_law_roll, [], []⟩
def d_law_sum : He.DefD := ⟨("_law_sum", none), "_law_sum", "_law_sum", defArgs s_law_sum, defBody s_law_sum, defScope s_law_sum, [], []⟩
def d_law_deed : He.DefD := ⟨("_law_deed", none), "_law_deed", "_law_deed", defArgs s_law_deed, defBody s_law_deed, defScope s_law_deed, [], []⟩
def d_law_desk : He.DefD := ⟨("_law_desk", none), "_law_desk", "_law_desk", defArgs s_law_desk, defBody s_law_desk, defScope s_law_desk, [], []⟩
def d_law_dice : He.DefD := ⟨("_law_dice", none), "_law_dice", "_law_dice", defArgs s_law_dice, defBody s_law_dice, defScope s_law_dice, [], []⟩
def d_law_rounds : He.DefD := ⟨("_law_rounds", none), "_law_rounds", "_law_rounds", defArgs s_law_rounds, defBody s_law_rounds, defScope s_law_rounds, [], []⟩
def d_law : He.DefD := ⟨("law", none), "law", "law", defArgs s_law, defBody s_law, defScope s_law, [], []⟩
def fn : List He.DefD := [d_Desk_init, d_Pages_sum_of, d_Pages_ready, d_Pages_waits, d_Pages_add, d_Line_init, d_Line_said, d_read_row, d_Pages_init, d_Pages_on_floor, d_Desk_judged, d_Desk_redo, d_Desk_undo, d_Desk_note, d_Pages_said, d_Pages_without_last, d_Desk_strike, d_Pages_with_row, d_Desk_tell, d_law_roll, d_law_sum, d_law_deed, d_law_desk, d_law_dice, d_law_rounds, d_law]
def fa : List He.Fa := [.glo "read_row", .glo "_law_roll", .glo "_law_sum", .glo "_law_deed", .glo "_law_desk", .glo "_law_dice", .glo "_law_rounds", .glo "law", .glo "Line", .cls "Line", .noat "Line" "day", .noat "Line" "deed", .noat "Line" "owner", .noat "Line" "kind", .noat "Line" "bushels", .mkr "Line", .meth "Line" "said", .glo "Pages", .cls "Pages", .noat "Pages" "rows", .mkr "Pages", .meth "Pages" "sum_of", .meth "Pages" "ready", .meth "Pages" "waits", .meth "Pages" "add", .meth "Pages" "on_floor", .meth "Pages" "said", .meth "Pages" "without_last", .meth "Pages" "with_row", .glo "Desk", .cls "Desk", .noat "Desk" "text", .noat "Desk" "deeds", .noat "Desk" "undone", .mkr "Desk", .meth "Desk" "judged", .meth "Desk" "redo", .meth "Desk" "undo", .meth "Desk" "note", .meth "Desk" "strike", .meth "Desk" "tell", .glo "BadText", .glo "BadDeed", .exc "BadDeed", .exm "BadText" "BadText" true, .exm "BadText" "BadDeed" false, .exm "BadDeed" "BadText" false, .exm "BadDeed" "BadDeed" true, .glo "MillFault", .glo "DEEDS", .free "abs", .free "any", .free "dict", .free "enumerate", .free "int", .free "len", .free "range", .free "sorted", .free "str", .free "sum", .free "super", .free "tuple", .exm "BadText" "MillFault" true]
def tf : List He.Defn := [("Pages", some "sum_of"), ("Line", some "__init__"), ("read_row", none), ("Desk", some "judged"), ("_law_deed", none), ("law", none)]
def ex (K : PySem.W.Frag) : Bool := decide ((tf.map fun p => (He.cT K p).2).Nodup) && conB K 5 K_DEEDS (.ref (He.ga K "DEEDS")) && conN K (He.ga K "DEEDS") && btB K PySem.Challenge.pw_millhall_k19_a_desk.main.file (He.ga K "BadText")
def nm_Pages_sum_of : Nat → Nat → Str := fun _ _ => "Pages.sum_of.<locals>.<genexpr>"
def nm_Line_init : Nat → Nat → Str := fun _ _ => "Line.__init__.<locals>.<genexpr>"
def nm_read_row : Nat → Nat → Str := fun _ _ => "read_row.<locals>.<genexpr>"
def nm_Desk_judged : Nat → Nat → Str := fun _ _ => "Desk.judged.<locals>.<genexpr>"
def nm_law_deed : Nat → Nat → Str := fun _ _ => "_law_deed.<locals>.<lambda>"
def nm_law : Nat → Nat → Str := fun _ _ => "law.<locals>.<lambda>"
def kqN : Option Str := none
def knN : Nat → Nat → Str := fun _ _ => ""
def MM (K : PySem.W.Frag) (φ : DL.Clo) : Mp where
  clo := φ.f
  cloM := φ.m
  cls := fun n => match n with
    | 0 => He.ga K "Line"
    | 1 => He.ga K "Pages"
    | 2 => He.ga K "Desk"
    | _ => 0
  flds := fun n => match n with
    | 0 => ["day", "deed", "owner", "kind", "bushels"]
    | 1 => ["rows"]
    | 2 => ["text", "deeds", "undone"]
    | _ => []
  exc := fun n => match n with
    | 0 => He.ga K "MillFault"
    | 1 => He.ga K "BadText"
    | 2 => He.ga K "BadDeed"
    | _ => 0
  row := "row"
  raw := true
  tabs := { l := [((He.cT K ("Pages", some "sum_of")).2, nm_Pages_sum_of), ((He.cT K ("Line", some "__init__")).2, nm_Line_init), ((He.cT K ("read_row", none)).2, nm_read_row), ((He.cT K ("Desk", some "judged")).2, nm_Desk_judged), ((He.cT K ("_law_deed", none)).2, nm_law_deed), ((He.cT K ("law", none)).2, nm_law)], kq := kqN, kn := knN }
structure Txt (w : World) (K : PySem.W.Frag) (mg : Str → Option Value) (base h : Heap) : Prop where
  KX : K.In h
  G : h.Ns mainGlobals mg
  c : He.SaysX fa fn [] tf ex w h K
  TB : ∀ p ∈ tf, LamX.TabB base mg (He.cT K p).1 (He.cT K p).2
section
variable {w : World} {K : PySem.W.Frag} {mg : Str → Option Value} {base h : Heap} {φ : DL.Clo}
theorem g_read_row (T : Txt w K mg base h) : mg "read_row" = some (.ref (He.fAd K ("read_row", none))) := He.glo_ok T.KX T.G (T.c.t.d.fact 0 (f := .glo "read_row") rfl)
theorem g_law_roll (T : Txt w K mg base h) : mg "_law_roll" = some (.ref (He.fAd K ("_law_roll", none))) := He.glo_ok T.KX T.G (T.c.t.d.fact 1 (f := .glo "_law_roll") rfl)
theorem g_law_sum (T : Txt w K mg base h) : mg "_law_sum" = some (.ref (He.fAd K ("_law_sum", none))) := He.glo_ok T.KX T.G (T.c.t.d.fact 2 (f := .glo "_law_sum") rfl)
theorem g_law_deed (T : Txt w K mg base h) : mg "_law_deed" = some (.ref (He.fAd K ("_law_deed", none))) := He.glo_ok T.KX T.G (T.c.t.d.fact 3 (f := .glo "_law_deed") rfl)
theorem g_law_desk (T : Txt w K mg base h) : mg "_law_desk" = some (.ref (He.fAd K ("_law_desk", none))) := He.glo_ok T.KX T.G (T.c.t.d.fact 4 (f := .glo "_law_desk") rfl)
theorem g_law_dice (T : Txt w K mg base h) : mg "_law_dice" = some (.ref (He.fAd K ("_law_dice", none))) := He.glo_ok T.KX T.G (T.c.t.d.fact 5 (f := .glo "_law_dice") rfl)
theorem g_law_rounds (T : Txt w K mg base h) : mg "_law_rounds" = some (.ref (He.fAd K ("_law_rounds", none))) := He.glo_ok T.KX T.G (T.c.t.d.fact 6 (f := .glo "_law_rounds") rfl)
theorem g_Line (T : Txt w K mg base h) : mg "Line" = some (.ref ((MM K φ).cls 0)) := He.glo_ok T.KX T.G (T.c.t.d.fact 8 (f := .glo "Line") rfl)
theorem Txt.cls0 (T : Txt w K mg base h) : ClsOk K (MM K φ) 0 where
  cl := He.cls_ok (T.c.t.d.fact 9 (f := .cls "Line") rfl)
  no := fun f hf => by
    have hf2 : f ∈ (["day", "deed", "owner", "kind", "bushels"] : List Str) := hf
    simp only [List.mem_cons, List.not_mem_nil, or_false] at hf2
    rcases hf2 with rfl | rfl | rfl | rfl | rfl
    · exact He.noat_ok (T.c.t.d.fact 10 (f := .noat "Line" "day") rfl)
    · exact He.noat_ok (T.c.t.d.fact 11 (f := .noat "Line" "deed") rfl)
    · exact He.noat_ok (T.c.t.d.fact 12 (f := .noat "Line" "owner") rfl)
    · exact He.noat_ok (T.c.t.d.fact 13 (f := .noat "Line" "kind") rfl)
    · exact He.noat_ok (T.c.t.d.fact 14 (f := .noat "Line" "bushels") rfl)
  nd := by show (["day", "deed", "owner", "kind", "bushels"] : List Str).Nodup; decide +kernel
  few := by show (["day", "deed", "owner", "kind", "bushels"] : List Str).length < 1000; decide
theorem mk_Line (T : Txt w K mg base h) : Mk K ((MM K φ).cls 0) (He.fAd K ("Line", some "__init__")) := He.mkr_ok (T.c.t.d.fact 15 (f := .mkr "Line") rfl)
theorem me_Line_said (T : Txt w K mg base h) : Meth K ((MM K φ).cls 0) "said" (He.fAd K ("Line", some "said")) := He.meth_ok (T.c.t.d.fact 16 (f := .meth "Line" "said") rfl)
theorem g_Pages (T : Txt w K mg base h) : mg "Pages" = some (.ref ((MM K φ).cls 1)) := He.glo_ok T.KX T.G (T.c.t.d.fact 17 (f := .glo "Pages") rfl)
theorem Txt.cls1 (T : Txt w K mg base h) : ClsOk K (MM K φ) 1 where
  cl := He.cls_ok (T.c.t.d.fact 18 (f := .cls "Pages") rfl)
  no := fun f hf => by
    have hf2 : f ∈ (["rows"] : List Str) := hf
    simp only [List.mem_cons, List.not_mem_nil, or_false] at hf2
    rcases hf2 with rfl
    · exact He.noat_ok (T.c.t.d.fact 19 (f := .noat "Pages" "rows") rfl)
  nd := by show (["rows"] : List Str).Nodup; decide +kernel
  few := by show (["rows"] : List Str).length < 1000; decide
theorem mk_Pages (T : Txt w K mg base h) : Mk K ((MM K φ).cls 1) (He.fAd K ("Pages", some "__init__")) := He.mkr_ok (T.c.t.d.fact 20 (f := .mkr "Pages") rfl)
theorem me_Pages_sum_of (T : Txt w K mg base h) : Meth K ((MM K φ).cls 1) "sum_of" (He.fAd K ("Pages", some "sum_of")) := He.meth_ok (T.c.t.d.fact 21 (f := .meth "Pages" "sum_of") rfl)
theorem me_Pages_ready (T : Txt w K mg base h) : Meth K ((MM K φ).cls 1) "ready" (He.fAd K ("Pages", some "ready")) := He.meth_ok (T.c.t.d.fact 22 (f := .meth "Pages" "ready") rfl)
theorem me_Pages_waits (T : Txt w K mg base h) : Meth K ((MM K φ).cls 1) "waits" (He.fAd K ("Pages", some "waits")) := He.meth_ok (T.c.t.d.fact 23 (f := .meth "Pages" "waits") rfl)
theorem me_Pages_add (T : Txt w K mg base h) : Meth K ((MM K φ).cls 1) "add" (He.fAd K ("Pages", some "add")) := He.meth_ok (T.c.t.d.fact 24 (f := .meth "Pages" "add") rfl)
theorem me_Pages_on_floor (T : Txt w K mg base h) : Meth K ((MM K φ).cls 1) "on_floor" (He.fAd K ("Pages", some "on_floor")) := He.meth_ok (T.c.t.d.fact 25 (f := .meth "Pages" "on_floor") rfl)
theorem me_Pages_said (T : Txt w K mg base h) : Meth K ((MM K φ).cls 1) "said" (He.fAd K ("Pages", some "said")) := He.meth_ok (T.c.t.d.fact 26 (f := .meth "Pages" "said") rfl)
theorem me_Pages_without_last (T : Txt w K mg base h) : Meth K ((MM K φ).cls 1) "without_last" (He.fAd K ("Pages", some "without_last")) := He.meth_ok (T.c.t.d.fact 27 (f := .meth "Pages" "without_last") rfl)
theorem me_Pages_with_row (T : Txt w K mg base h) : Meth K ((MM K φ).cls 1) "with_row" (He.fAd K ("Pages", some "with_row")) := He.meth_ok (T.c.t.d.fact 28 (f := .meth "Pages" "with_row") rfl)
theorem g_Desk (T : Txt w K mg base h) : mg "Desk" = some (.ref ((MM K φ).cls 2)) := He.glo_ok T.KX T.G (T.c.t.d.fact 29 (f := .glo "Desk") rfl)
theorem Txt.cls2 (T : Txt w K mg base h) : ClsOk K (MM K φ) 2 where
  cl := He.cls_ok (T.c.t.d.fact 30 (f := .cls "Desk") rfl)
  no := fun f hf => by
    have hf2 : f ∈ (["text", "deeds", "undone"] : List Str) := hf
    simp only [List.mem_cons, List.not_mem_nil, or_false] at hf2
    rcases hf2 with rfl | rfl | rfl
    · exact He.noat_ok (T.c.t.d.fact 31 (f := .noat "Desk" "text") rfl)
    · exact He.noat_ok (T.c.t.d.fact 32 (f := .noat "Desk" "deeds") rfl)
    · exact He.noat_ok (T.c.t.d.fact 33 (f := .noat "Desk" "undone") rfl)
  nd := by show (["text", "deeds", "undone"] : List Str).Nodup; decide +kernel
  few := by show (["text", "deeds", "undone"] : List Str).length < 1000; decide
theorem mk_Desk (T : Txt w K mg base h) : Mk K ((MM K φ).cls 2) (He.fAd K ("Desk", some "__init__")) := He.mkr_ok (T.c.t.d.fact 34 (f := .mkr "Desk") rfl)
theorem me_Desk_judged (T : Txt w K mg base h) : Meth K ((MM K φ).cls 2) "judged" (He.fAd K ("Desk", some "judged")) := He.meth_ok (T.c.t.d.fact 35 (f := .meth "Desk" "judged") rfl)
theorem me_Desk_redo (T : Txt w K mg base h) : Meth K ((MM K φ).cls 2) "redo" (He.fAd K ("Desk", some "redo")) := He.meth_ok (T.c.t.d.fact 36 (f := .meth "Desk" "redo") rfl)
theorem me_Desk_undo (T : Txt w K mg base h) : Meth K ((MM K φ).cls 2) "undo" (He.fAd K ("Desk", some "undo")) := He.meth_ok (T.c.t.d.fact 37 (f := .meth "Desk" "undo") rfl)
theorem me_Desk_note (T : Txt w K mg base h) : Meth K ((MM K φ).cls 2) "note" (He.fAd K ("Desk", some "note")) := He.meth_ok (T.c.t.d.fact 38 (f := .meth "Desk" "note") rfl)
theorem me_Desk_strike (T : Txt w K mg base h) : Meth K ((MM K φ).cls 2) "strike" (He.fAd K ("Desk", some "strike")) := He.meth_ok (T.c.t.d.fact 39 (f := .meth "Desk" "strike") rfl)
theorem me_Desk_tell (T : Txt w K mg base h) : Meth K ((MM K φ).cls 2) "tell" (He.fAd K ("Desk", some "tell")) := He.meth_ok (T.c.t.d.fact 40 (f := .meth "Desk" "tell") rfl)
theorem ge_BadText (T : Txt w K mg base h) : mg "BadText" = some (.ref ((MM K φ).exc 1)) := He.glo_ok T.KX T.G (T.c.t.d.fact 41 (f := .glo "BadText") rfl)
theorem ge_BadDeed (T : Txt w K mg base h) : mg "BadDeed" = some (.ref ((MM K φ).exc 2)) := He.glo_ok T.KX T.G (T.c.t.d.fact 42 (f := .glo "BadDeed") rfl)
theorem Txt.exc_BadDeed (T : Txt w K mg base h) : ExcOk K mg (MM K φ) 2 "BadDeed" := by
  obtain ⟨a, b, c, d⟩ := He.exc_ok (T.c.t.d.fact 43 (f := .exc "BadDeed") rfl)
  exact ⟨He.glo_ok T.KX T.G (T.c.t.d.fact 42 (f := .glo "BadDeed") rfl), a, b, c, d⟩
theorem xm_BadText (T : Txt w K mg base h) : PySem.W.exmOne K (.ref ((MM K φ).exc 1)) (.ref ((MM K φ).exc 1)) = some true := He.exm_ok (T.c.t.d.fact 44 (f := .exm "BadText" "BadText" true) rfl)
theorem xm_BadText_MillFault (T : Txt w K mg base h) : PySem.W.exmOne K (.ref ((MM K φ).exc 1)) (.ref ((MM K φ).exc 0)) = some true := He.exm_ok (T.c.t.d.fact 62 (f := .exm "BadText" "MillFault" true) rfl)
theorem Txt.gc_DEEDS (T : Txt w K mg base h) : mg "DEEDS" = some (.ref (He.ga K "DEEDS")) := He.glo_ok T.KX T.G (T.c.t.d.fact 49 (f := .glo "DEEDS") rfl)
theorem Txt.con_DEEDS (T : Txt w K mg base h) : conB K 5 K_DEEDS (.ref (He.ga K "DEEDS")) = true := (((T.c.more |> He.ba).1 |> He.ba).1 |> He.ba).2
theorem Txt.f_abs (T : Txt w K mg base h) : mg "abs" = none := He.free_ok T.KX T.G (T.c.t.d.fact 50 (f := .free "abs") rfl)
theorem Txt.f_any (T : Txt w K mg base h) : mg "any" = none := He.free_ok T.KX T.G (T.c.t.d.fact 51 (f := .free "any") rfl)
theorem Txt.f_dict (T : Txt w K mg base h) : mg "dict" = none := He.free_ok T.KX T.G (T.c.t.d.fact 52 (f := .free "dict") rfl)
theorem Txt.f_enumerate (T : Txt w K mg base h) : mg "enumerate" = none := He.free_ok T.KX T.G (T.c.t.d.fact 53 (f := .free "enumerate") rfl)
theorem Txt.f_int (T : Txt w K mg base h) : mg "int" = none := He.free_ok T.KX T.G (T.c.t.d.fact 54 (f := .free "int") rfl)
theorem Txt.f_len (T : Txt w K mg base h) : mg "len" = none := He.free_ok T.KX T.G (T.c.t.d.fact 55 (f := .free "len") rfl)
theorem Txt.f_range (T : Txt w K mg base h) : mg "range" = none := He.free_ok T.KX T.G (T.c.t.d.fact 56 (f := .free "range") rfl)
theorem Txt.f_sorted (T : Txt w K mg base h) : mg "sorted" = none := He.free_ok T.KX T.G (T.c.t.d.fact 57 (f := .free "sorted") rfl)
theorem Txt.f_str (T : Txt w K mg base h) : mg "str" = none := He.free_ok T.KX T.G (T.c.t.d.fact 58 (f := .free "str") rfl)
theorem Txt.f_sum (T : Txt w K mg base h) : mg "sum" = none := He.free_ok T.KX T.G (T.c.t.d.fact 59 (f := .free "sum") rfl)
theorem Txt.f_super (T : Txt w K mg base h) : mg "super" = none := He.free_ok T.KX T.G (T.c.t.d.fact 60 (f := .free "super") rfl)
theorem Txt.f_tuple (T : Txt w K mg base h) : mg "tuple" = none := He.free_ok T.KX T.G (T.c.t.d.fact 61 (f := .free "tuple") rfl)
theorem Txt.excR_BadText (T : Txt w K mg base h) : ExcR PySem.Challenge.pw_millhall_k19_a_desk w K mg base (MM K φ) 1 "BadText" := excR_of ((T.c.more |> He.ba).2) rfl (by decide +kernel) T.f_super (ge_BadText T) rfl
theorem ge_MillFault (T : Txt w K mg base h) : mg "MillFault" = some (.ref (He.ga K "MillFault")) := He.glo_ok T.KX T.G (T.c.t.d.fact 48 (f := .glo "MillFault") rfl)
def clos : List Lm := match defBody s_law_deed with
  | [_, .If _ [.Return (some (.Tuple (.Lambda p0 b0 s0 _ :: _) _ _)) _] _ _, _, _, _, _, _, .Return (some (.Tuple (.Lambda p1 b1 s1 _ :: _) _ _)) _] => [⟨p0, b0, s0⟩, ⟨p1, b1, s1⟩]
  | _ => []
theorem Txt.tb (T : Txt w K mg base h) (p : He.Defn) (hp : p ∈ tf) : LamX.TabB base mg (He.cT K p).1 (He.cT K p).2 := T.TB p hp
noncomputable def fd_Desk_init (T : Txt w K mg base h) : FuncData := Classical.choose (T.c.t.d.def_ 0 (d := d_Desk_init) rfl)
theorem F_Desk_init (T : Txt w K mg base h) : Fun K "__init__" "Desk.__init__" s_Desk_init (He.fAd K ("Desk", some "__init__")) (fd_Desk_init T) := funOfD (Classical.choose_spec (T.c.t.d.def_ 0 (d := d_Desk_init) rfl))
theorem b_Desk_init (T : Txt w K mg base h) : L2.Binds K (fd_Desk_init T) ["self"] [] := (F_Desk_init T).binds (ps := ["self"]) fun _ _ _ _ _ _ us hl => match us, hl with | [_], _ => rfl
theorem sc_Desk_init : FnScope ["self"] ["self"] (defScope s_Desk_init) := ⟨rfl, rfl, rfl, by decide +kernel, rfl, by decide +kernel, by decide +kernel⟩
noncomputable def fd_Pages_sum_of (T : Txt w K mg base h) : FuncData := Classical.choose (T.c.t.d.def_ 1 (d := d_Pages_sum_of) rfl)
theorem F_Pages_sum_of (T : Txt w K mg base h) : Fun K "sum_of" "Pages.sum_of" s_Pages_sum_of (He.fAd K ("Pages", some "sum_of")) (fd_Pages_sum_of T) := funOfD (Classical.choose_spec (T.c.t.d.def_ 1 (d := d_Pages_sum_of) rfl))
theorem b_Pages_sum_of (T : Txt w K mg base h) : L2.Binds K (fd_Pages_sum_of T) ["self", "deed", "owner", "kind"] [] := (F_Pages_sum_of T).binds (ps := ["self", "deed", "owner", "kind"]) fun _ _ _ _ _ _ us hl => match us, hl with | [_, _, _, _], _ => rfl
theorem sc_Pages_sum_of : FnScope ["self", "deed", "owner", "kind", "row"] ["self", "deed", "owner", "kind"] (defScope s_Pages_sum_of) := ⟨rfl, rfl, rfl, by decide +kernel, rfl, by decide +kernel, by decide +kernel⟩
noncomputable def fd_Pages_ready (T : Txt w K mg base h) : FuncData := Classical.choose (T.c.t.d.def_ 2 (d := d_Pages_ready) rfl)
theorem F_Pages_ready (T : Txt w K mg base h) : Fun K "ready" "Pages.ready" s_Pages_ready (He.fAd K ("Pages", some "ready")) (fd_Pages_ready T) := funOfD (Classical.choose_spec (T.c.t.d.def_ 2 (d := d_Pages_ready) rfl))
theorem b_Pages_ready (T : Txt w K mg base h) : L2.Binds K (fd_Pages_ready T) ["self", "owner", "kind"] [] := (F_Pages_ready T).binds (ps := ["self", "owner", "kind"]) fun _ _ _ _ _ _ us hl => match us, hl with | [_, _, _], _ => rfl
theorem sc_Pages_ready : FnScope ["self", "owner", "kind"] ["self", "owner", "kind"] (defScope s_Pages_ready) := ⟨rfl, rfl, rfl, by decide +kernel, rfl, by decide +kernel, by decide +kernel⟩
noncomputable def fd_Pages_waits (T : Txt w K mg base h) : FuncData := Classical.choose (T.c.t.d.def_ 3 (d := d_Pages_waits) rfl)
theorem F_Pages_waits (T : Txt w K mg base h) : Fun K "waits" "Pages.waits" s_Pages_waits (He.fAd K ("Pages", some "waits")) (fd_Pages_waits T) := funOfD (Classical.choose_spec (T.c.t.d.def_ 3 (d := d_Pages_waits) rfl))
theorem b_Pages_waits (T : Txt w K mg base h) : L2.Binds K (fd_Pages_waits T) ["self", "owner", "kind"] [] := (F_Pages_waits T).binds (ps := ["self", "owner", "kind"]) fun _ _ _ _ _ _ us hl => match us, hl with | [_, _, _], _ => rfl
theorem sc_Pages_waits : FnScope ["self", "owner", "kind"] ["self", "owner", "kind"] (defScope s_Pages_waits) := ⟨rfl, rfl, rfl, by decide +kernel, rfl, by decide +kernel, by decide +kernel⟩
noncomputable def fd_Pages_add (T : Txt w K mg base h) : FuncData := Classical.choose (T.c.t.d.def_ 4 (d := d_Pages_add) rfl)
theorem F_Pages_add (T : Txt w K mg base h) : Fun K "add" "Pages.add" s_Pages_add (He.fAd K ("Pages", some "add")) (fd_Pages_add T) := funOfD (Classical.choose_spec (T.c.t.d.def_ 4 (d := d_Pages_add) rfl))
theorem b_Pages_add (T : Txt w K mg base h) : L2.Binds K (fd_Pages_add T) ["self", "row"] [] := (F_Pages_add T).binds (ps := ["self", "row"]) fun _ _ _ _ _ _ us hl => match us, hl with | [_, _], _ => rfl
theorem sc_Pages_add : FnScope ["self", "row"] ["self", "row"] (defScope s_Pages_add) := ⟨rfl, rfl, rfl, by decide +kernel, rfl, by decide +kernel, by decide +kernel⟩
noncomputable def fd_Line_init (T : Txt w K mg base h) : FuncData := Classical.choose (T.c.t.d.def_ 5 (d := d_Line_init) rfl)
theorem F_Line_init (T : Txt w K mg base h) : Fun K "__init__" "Line.__init__" s_Line_init (He.fAd K ("Line", some "__init__")) (fd_Line_init T) := funOfD (Classical.choose_spec (T.c.t.d.def_ 5 (d := d_Line_init) rfl))
theorem b_Line_init (T : Txt w K mg base h) : L2.Binds K (fd_Line_init T) ["self", "day", "deed", "owner", "kind", "bushels"] [] := (F_Line_init T).binds (ps := ["self", "day", "deed", "owner", "kind", "bushels"]) fun _ _ _ _ _ _ us hl => match us, hl with | [_, _, _, _, _, _], _ => rfl
theorem sc_Line_init : FnScope ["self", "day", "deed", "owner", "kind", "bushels", "word"] ["self", "day", "deed", "owner", "kind", "bushels"] (defScope s_Line_init) := ⟨rfl, rfl, rfl, by decide +kernel, rfl, by decide +kernel, by decide +kernel⟩
noncomputable def fd_Line_said (T : Txt w K mg base h) : FuncData := Classical.choose (T.c.t.d.def_ 6 (d := d_Line_said) rfl)
theorem F_Line_said (T : Txt w K mg base h) : Fun K "said" "Line.said" s_Line_said (He.fAd K ("Line", some "said")) (fd_Line_said T) := funOfD (Classical.choose_spec (T.c.t.d.def_ 6 (d := d_Line_said) rfl))
theorem b_Line_said (T : Txt w K mg base h) : L2.Binds K (fd_Line_said T) ["self"] [] := (F_Line_said T).binds (ps := ["self"]) fun _ _ _ _ _ _ us hl => match us, hl with | [_], _ => rfl
theorem sc_Line_said : FnScope ["self"] ["self"] (defScope s_Line_said) := ⟨rfl, rfl, rfl, by decide +kernel, rfl, by decide +kernel, by decide +kernel⟩
noncomputable def fd_read_row (T : Txt w K mg base h) : FuncData := Classical.choose (T.c.t.d.def_ 7 (d := d_read_row) rfl)
theorem F_read_row (T : Txt w K mg base h) : Fun K "read_row" "read_row" s_read_row (He.fAd K ("read_row", none)) (fd_read_row T) := funOfD (Classical.choose_spec (T.c.t.d.def_ 7 (d := d_read_row) rfl))
theorem b_read_row (T : Txt w K mg base h) : L2.Binds K (fd_read_row T) ["text"] [] := (F_read_row T).binds (ps := ["text"]) fun _ _ _ _ _ _ us hl => match us, hl with | [_], _ => rfl
theorem k_read_row (T : Txt w K mg base h) : PySem.W.keepIn K (.ref (He.fAd K ("read_row", none))) = true := (F_read_row T).kp
theorem sc_read_row : FnScope ["text", "words", "word", "sign", "found"] ["text"] (defScope s_read_row) := ⟨rfl, rfl, rfl, by decide +kernel, rfl, by decide +kernel, by decide +kernel⟩
noncomputable def fd_Pages_init (T : Txt w K mg base h) : FuncData := Classical.choose (T.c.t.d.def_ 8 (d := d_Pages_init) rfl)
theorem F_Pages_init (T : Txt w K mg base h) : Fun K "__init__" "Pages.__init__" s_Pages_init (He.fAd K ("Pages", some "__init__")) (fd_Pages_init T) := funOfD (Classical.choose_spec (T.c.t.d.def_ 8 (d := d_Pages_init) rfl))
theorem b_Pages_init (T : Txt w K mg base h) : L2.Binds K (fd_Pages_init T) ["self", "text"] [] := (F_Pages_init T).binds (ps := ["self", "text"]) fun _ _ _ _ _ _ us hl => match us, hl with | [_, _], _ => rfl
theorem sc_Pages_init : FnScope ["self", "text", "k", "line"] ["self", "text"] (defScope s_Pages_init) := ⟨rfl, rfl, rfl, by decide +kernel, rfl, by decide +kernel, by decide +kernel⟩
noncomputable def fd_Pages_on_floor (T : Txt w K mg base h) : FuncData := Classical.choose (T.c.t.d.def_ 9 (d := d_Pages_on_floor) rfl)
theorem F_Pages_on_floor (T : Txt w K mg base h) : Fun K "on_floor" "Pages.on_floor" s_Pages_on_floor (He.fAd K ("Pages", some "on_floor")) (fd_Pages_on_floor T) := funOfD (Classical.choose_spec (T.c.t.d.def_ 9 (d := d_Pages_on_floor) rfl))
theorem b_Pages_on_floor (T : Txt w K mg base h) : L2.Binds K (fd_Pages_on_floor T) ["self"] [] := (F_Pages_on_floor T).binds (ps := ["self"]) fun _ _ _ _ _ _ us hl => match us, hl with | [_], _ => rfl
theorem sc_Pages_on_floor : FnScope ["self", "found", "owner", "kind", "waits", "ready", "row"] ["self"] (defScope s_Pages_on_floor) := ⟨rfl, rfl, rfl, by decide +kernel, rfl, by decide +kernel, by decide +kernel⟩
noncomputable def fd_Desk_judged (T : Txt w K mg base h) : FuncData := Classical.choose (T.c.t.d.def_ 10 (d := d_Desk_judged) rfl)
theorem F_Desk_judged (T : Txt w K mg base h) : Fun K "judged" "Desk.judged" s_Desk_judged (He.fAd K ("Desk", some "judged")) (fd_Desk_judged T) := funOfD (Classical.choose_spec (T.c.t.d.def_ 10 (d := d_Desk_judged) rfl))
theorem b_Desk_judged (T : Txt w K mg base h) : L2.Binds K (fd_Desk_judged T) ["self"] [] := (F_Desk_judged T).binds (ps := ["self"]) fun _ _ _ _ _ _ us hl => match us, hl with | [_], _ => rfl
theorem sc_Desk_judged : FnScope ["self", "pages", "rows", "row"] ["self"] (defScope s_Desk_judged) := ⟨rfl, rfl, rfl, by decide +kernel, rfl, by decide +kernel, by decide +kernel⟩
noncomputable def fd_Desk_redo (T : Txt w K mg base h) : FuncData := Classical.choose (T.c.t.d.def_ 11 (d := d_Desk_redo) rfl)
theorem F_Desk_redo (T : Txt w K mg base h) : Fun K "redo" "Desk.redo" s_Desk_redo (He.fAd K ("Desk", some "redo")) (fd_Desk_redo T) := funOfD (Classical.choose_spec (T.c.t.d.def_ 11 (d := d_Desk_redo) rfl))
theorem b_Desk_redo (T : Txt w K mg base h) : L2.Binds K (fd_Desk_redo T) ["self"] [] := (F_Desk_redo T).binds (ps := ["self"]) fun _ _ _ _ _ _ us hl => match us, hl with | [_], _ => rfl
theorem sc_Desk_redo : FnScope ["self", "deed"] ["self"] (defScope s_Desk_redo) := ⟨rfl, rfl, rfl, by decide +kernel, rfl, by decide +kernel, by decide +kernel⟩
noncomputable def fd_Desk_undo (T : Txt w K mg base h) : FuncData := Classical.choose (T.c.t.d.def_ 12 (d := d_Desk_undo) rfl)
theorem F_Desk_undo (T : Txt w K mg base h) : Fun K "undo" "Desk.undo" s_Desk_undo (He.fAd K ("Desk", some "undo")) (fd_Desk_undo T) := funOfD (Classical.choose_spec (T.c.t.d.def_ 12 (d := d_Desk_undo) rfl))
theorem b_Desk_undo (T : Txt w K mg base h) : L2.Binds K (fd_Desk_undo T) ["self"] [] := (F_Desk_undo T).binds (ps := ["self"]) fun _ _ _ _ _ _ us hl => match us, hl with | [_], _ => rfl
theorem sc_Desk_undo : FnScope ["self", "deed"] ["self"] (defScope s_Desk_undo) := ⟨rfl, rfl, rfl, by decide +kernel, rfl, by decide +kernel, by decide +kernel⟩
noncomputable def fd_Desk_note (T : Txt w K mg base h) : FuncData := Classical.choose (T.c.t.d.def_ 13 (d := d_Desk_note) rfl)
theorem F_Desk_note (T : Txt w K mg base h) : Fun K "note" "Desk.note" s_Desk_note (He.fAd K ("Desk", some "note")) (fd_Desk_note T) := funOfD (Classical.choose_spec (T.c.t.d.def_ 13 (d := d_Desk_note) rfl))
theorem b_Desk_note (T : Txt w K mg base h) : L2.Binds K (fd_Desk_note T) ["self", "text"] [] := (F_Desk_note T).binds (ps := ["self", "text"]) fun _ _ _ _ _ _ us hl => match us, hl with | [_, _], _ => rfl
theorem sc_Desk_note : FnScope ["self", "text"] ["self", "text"] (defScope s_Desk_note) := ⟨rfl, rfl, rfl, by decide +kernel, rfl, by decide +kernel, by decide +kernel⟩
noncomputable def fd_Pages_said (T : Txt w K mg base h) : FuncData := Classical.choose (T.c.t.d.def_ 14 (d := d_Pages_said) rfl)
theorem F_Pages_said (T : Txt w K mg base h) : Fun K "said" "Pages.said" s_Pages_said (He.fAd K ("Pages", some "said")) (fd_Pages_said T) := funOfD (Classical.choose_spec (T.c.t.d.def_ 14 (d := d_Pages_said) rfl))
theorem b_Pages_said (T : Txt w K mg base h) : L2.Binds K (fd_Pages_said T) ["self"] [] := (F_Pages_said T).binds (ps := ["self"]) fun _ _ _ _ _ _ us hl => match us, hl with | [_], _ => rfl
theorem sc_Pages_said : FnScope ["self", "row"] ["self"] (defScope s_Pages_said) := ⟨rfl, rfl, rfl, by decide +kernel, rfl, by decide +kernel, by decide +kernel⟩
noncomputable def fd_Pages_without_last (T : Txt w K mg base h) : FuncData := Classical.choose (T.c.t.d.def_ 15 (d := d_Pages_without_last) rfl)
theorem F_Pages_without_last (T : Txt w K mg base h) : Fun K "without_last" "Pages.without_last" s_Pages_without_last (He.fAd K ("Pages", some "without_last")) (fd_Pages_without_last T) := funOfD (Classical.choose_spec (T.c.t.d.def_ 15 (d := d_Pages_without_last) rfl))
theorem b_Pages_without_last (T : Txt w K mg base h) : L2.Binds K (fd_Pages_without_last T) ["self"] [] := (F_Pages_without_last T).binds (ps := ["self"]) fun _ _ _ _ _ _ us hl => match us, hl with | [_], _ => rfl
theorem sc_Pages_without_last : FnScope ["self", "row"] ["self"] (defScope s_Pages_without_last) := ⟨rfl, rfl, rfl, by decide +kernel, rfl, by decide +kernel, by decide +kernel⟩
noncomputable def fd_Desk_strike (T : Txt w K mg base h) : FuncData := Classical.choose (T.c.t.d.def_ 16 (d := d_Desk_strike) rfl)
theorem F_Desk_strike (T : Txt w K mg base h) : Fun K "strike" "Desk.strike" s_Desk_strike (He.fAd K ("Desk", some "strike")) (fd_Desk_strike T) := funOfD (Classical.choose_spec (T.c.t.d.def_ 16 (d := d_Desk_strike) rfl))
theorem b_Desk_strike (T : Txt w K mg base h) : L2.Binds K (fd_Desk_strike T) ["self"] [] := (F_Desk_strike T).binds (ps := ["self"]) fun _ _ _ _ _ _ us hl => match us, hl with | [_], _ => rfl
theorem sc_Desk_strike : FnScope ["self", "fresh"] ["self"] (defScope s_Desk_strike) := ⟨rfl, rfl, rfl, by decide +kernel, rfl, by decide +kernel, by decide +kernel⟩
noncomputable def fd_Pages_with_row (T : Txt w K mg base h) : FuncData := Classical.choose (T.c.t.d.def_ 17 (d := d_Pages_with_row) rfl)
theorem F_Pages_with_row (T : Txt w K mg base h) : Fun K "with_row" "Pages.with_row" s_Pages_with_row (He.fAd K ("Pages", some "with_row")) (fd_Pages_with_row T) := funOfD (Classical.choose_spec (T.c.t.d.def_ 17 (d := d_Pages_with_row) rfl))
theorem b_Pages_with_row (T : Txt w K mg base h) : L2.Binds K (fd_Pages_with_row T) ["self", "text"] [] := (F_Pages_with_row T).binds (ps := ["self", "text"]) fun _ _ _ _ _ _ us hl => match us, hl with | [_, _], _ => rfl
theorem sc_Pages_with_row : FnScope ["self", "text", "there"] ["self", "text"] (defScope s_Pages_with_row) := ⟨rfl, rfl, rfl, by decide +kernel, rfl, by decide +kernel, by decide +kernel⟩
noncomputable def fd_Desk_tell (T : Txt w K mg base h) : FuncData := Classical.choose (T.c.t.d.def_ 18 (d := d_Desk_tell) rfl)
theorem F_Desk_tell (T : Txt w K mg base h) : Fun K "tell" "Desk.tell" s_Desk_tell (He.fAd K ("Desk", some "tell")) (fd_Desk_tell T) := funOfD (Classical.choose_spec (T.c.t.d.def_ 18 (d := d_Desk_tell) rfl))
theorem b_Desk_tell (T : Txt w K mg base h) : L2.Binds K (fd_Desk_tell T) ["self", "row"] [] := (F_Desk_tell T).binds (ps := ["self", "row"]) fun _ _ _ _ _ _ us hl => match us, hl with | [_, _], _ => rfl
theorem sc_Desk_tell : FnScope ["self", "row", "fresh"] ["self", "row"] (defScope s_Desk_tell) := ⟨rfl, rfl, rfl, by decide +kernel, rfl, by decide +kernel, by decide +kernel⟩
noncomputable def fd_law_roll (T : Txt w K mg base h) : FuncData := Classical.choose (T.c.t.d.def_ 19 (d := d_law_roll) rfl)
theorem F_law_roll (T : Txt w K mg base h) : Fun K "_law_roll" "_law_roll" s_law_roll (He.fAd K ("_law_roll", none)) (fd_law_roll T) := funOfD (Classical.choose_spec (T.c.t.d.def_ 19 (d := d_law_roll) rfl))
theorem b_law_roll (T : Txt w K mg base h) : L2.Binds K (fd_law_roll T) ["dice", "many"] [] := (F_law_roll T).binds (ps := ["dice", "many"]) fun _ _ _ _ _ _ us hl => match us, hl with | [_, _], _ => rfl
theorem k_law_roll (T : Txt w K mg base h) : PySem.W.keepIn K (.ref (He.fAd K ("_law_roll", none))) = true := (F_law_roll T).kp
theorem sc_law_roll : FnScope ["dice", "many", "found"] ["dice", "many"] (defScope s_law_roll) := ⟨rfl, rfl, rfl, by decide +kernel, rfl, by decide +kernel, by decide +kernel⟩
noncomputable def fd_law_sum (T : Txt w K mg base h) : FuncData := Classical.choose (T.c.t.d.def_ 20 (d := d_law_sum) rfl)
theorem F_law_sum (T : Txt w K mg base h) : Fun K "_law_sum" "_law_sum" s_law_sum (He.fAd K ("_law_sum", none)) (fd_law_sum T) := funOfD (Classical.choose_spec (T.c.t.d.def_ 20 (d := d_law_sum) rfl))
theorem b_law_sum (T : Txt w K mg base h) : L2.Binds K (fd_law_sum T) ["rows", "deed"] [] := (F_law_sum T).binds (ps := ["rows", "deed"]) fun _ _ _ _ _ _ us hl => match us, hl with | [_, _], _ => rfl
theorem k_law_sum (T : Txt w K mg base h) : PySem.W.keepIn K (.ref (He.fAd K ("_law_sum", none))) = true := (F_law_sum T).kp
theorem sc_law_sum : FnScope ["rows", "deed", "row"] ["rows", "deed"] (defScope s_law_sum) := ⟨rfl, rfl, rfl, by decide +kernel, rfl, by decide +kernel, by decide +kernel⟩
noncomputable def fd_law_deed (T : Txt w K mg base h) : FuncData := Classical.choose (T.c.t.d.def_ 21 (d := d_law_deed) rfl)
theorem F_law_deed (T : Txt w K mg base h) : Fun K "_law_deed" "_law_deed" s_law_deed (He.fAd K ("_law_deed", none)) (fd_law_deed T) := funOfD (Classical.choose_spec (T.c.t.d.def_ 21 (d := d_law_deed) rfl))
theorem b_law_deed (T : Txt w K mg base h) : L2.Binds K (fd_law_deed T) ["desk", "dice", "now"] [] := (F_law_deed T).binds (ps := ["desk", "dice", "now"]) fun _ _ _ _ _ _ us hl => match us, hl with | [_, _, _], _ => rfl
theorem k_law_deed (T : Txt w K mg base h) : PySem.W.keepIn K (.ref (He.fAd K ("_law_deed", none))) = true := (F_law_deed T).kp
theorem sc_law_deed : FnScope ["desk", "dice", "now", "rows", "day", "deed", "many", "row", "last", "most", "fine"] ["desk", "dice", "now"] (defScope s_law_deed) := ⟨rfl, rfl, rfl, by decide +kernel, rfl, by decide +kernel, by decide +kernel⟩
noncomputable def fd_law_desk (T : Txt w K mg base h) : FuncData := Classical.choose (T.c.t.d.def_ 22 (d := d_law_desk) rfl)
theorem F_law_desk (T : Txt w K mg base h) : Fun K "_law_desk" "_law_desk" s_law_desk (He.fAd K ("_law_desk", none)) (fd_law_desk T) := funOfD (Classical.choose_spec (T.c.t.d.def_ 22 (d := d_law_desk) rfl))
theorem b_law_desk (T : Txt w K mg base h) : L2.Binds K (fd_law_desk T) ["what"] [] := (F_law_desk T).binds (ps := ["what"]) fun _ _ _ _ _ _ us hl => match us, hl with | [_], _ => rfl
theorem k_law_desk (T : Txt w K mg base h) : PySem.W.keepIn K (.ref (He.fAd K ("_law_desk", none))) = true := (F_law_desk T).kp
theorem sc_law_desk : FnScope ["what"] ["what"] (defScope s_law_desk) := ⟨rfl, rfl, rfl, by decide +kernel, rfl, by decide +kernel, by decide +kernel⟩
noncomputable def fd_law_dice (T : Txt w K mg base h) : FuncData := Classical.choose (T.c.t.d.def_ 23 (d := d_law_dice) rfl)
theorem F_law_dice (T : Txt w K mg base h) : Fun K "_law_dice" "_law_dice" s_law_dice (He.fAd K ("_law_dice", none)) (fd_law_dice T) := funOfD (Classical.choose_spec (T.c.t.d.def_ 23 (d := d_law_dice) rfl))
theorem b_law_dice (T : Txt w K mg base h) : L2.Binds K (fd_law_dice T) ["cell"] [] := (F_law_dice T).binds (ps := ["cell"]) fun _ _ _ _ _ _ us hl => match us, hl with | [_], _ => rfl
theorem k_law_dice (T : Txt w K mg base h) : PySem.W.keepIn K (.ref (He.fAd K ("_law_dice", none))) = true := (F_law_dice T).kp
theorem sc_law_dice : FnScope ["cell"] ["cell"] (defScope s_law_dice) := ⟨rfl, rfl, rfl, by decide +kernel, rfl, by decide +kernel, by decide +kernel⟩
noncomputable def fd_law_rounds (T : Txt w K mg base h) : FuncData := Classical.choose (T.c.t.d.def_ 24 (d := d_law_rounds) rfl)
theorem F_law_rounds (T : Txt w K mg base h) : Fun K "_law_rounds" "_law_rounds" s_law_rounds (He.fAd K ("_law_rounds", none)) (fd_law_rounds T) := funOfD (Classical.choose_spec (T.c.t.d.def_ 24 (d := d_law_rounds) rfl))
theorem b_law_rounds (T : Txt w K mg base h) : L2.Binds K (fd_law_rounds T) ["script", "most"] [] := (F_law_rounds T).binds (ps := ["script", "most"]) fun _ _ _ _ _ _ us hl => match us, hl with | [_, _], _ => rfl
theorem k_law_rounds (T : Txt w K mg base h) : PySem.W.keepIn K (.ref (He.fAd K ("_law_rounds", none))) = true := (F_law_rounds T).kp
theorem sc_law_rounds : FnScope ["script", "most", "cells", "cell"] ["script", "most"] (defScope s_law_rounds) := ⟨rfl, rfl, rfl, by decide +kernel, rfl, by decide +kernel, by decide +kernel⟩
noncomputable def fd_law (T : Txt w K mg base h) : FuncData := Classical.choose (T.c.t.d.def_ 25 (d := d_law) rfl)
theorem F_law (T : Txt w K mg base h) : Fun K "law" "law" s_law (He.fAd K ("law", none)) (fd_law T) := funOfD (Classical.choose_spec (T.c.t.d.def_ 25 (d := d_law) rfl))
theorem sc_law : FnScope ["script", "dice", "desk", "step", "rows", "waits", "past", "place", "now", "gap", "fine", "reply", "deed", "due"] ["script"] (defScope s_law) := ⟨rfl, rfl, rfl, by decide +kernel, rfl, by decide +kernel, by decide +kernel⟩
def nms : List (Nat → Nat → Str) := [nm_Pages_sum_of, nm_Line_init, nm_read_row, nm_Desk_judged, nm_law_deed, nm_law]
theorem ndT (T : Txt w K mg base h) : (tf.map fun p => (He.cT K p).2).Nodup := of_decide_eq_true (((T.c.more |> He.ba).1 |> He.ba).1 |> He.ba).1
theorem tabsu_Pages_sum_of (T : Txt w K mg base h) : ∀ p ∈ (MM K φ).tabs.l, p.1 = (He.cT K ("Pages", some "sum_of")).2 → p.2 = nm_Pages_sum_of := fun p hp e => zip_u (as := tf.map fun p => (He.cT K p).2) (bs := nms) (i := 0) (ndT T) rfl rfl p hp e
theorem tabs_Pages_sum_of (T : Txt w K mg base h) {q : Str} {pos : Pos} (e : nm_Pages_sum_of pos.line pos.col = q := by first | rfl | decide +kernel) (hq : kqN ≠ some (nm_Pages_sum_of pos.line pos.col) := by first | (intro z; cases z; done) | decide +kernel) : HasT (MM K φ).tabs (He.cT K ("Pages", some "sum_of")).2 q pos := ⟨nm_Pages_sum_of, List.mem_of_getElem? (i := 0) rfl, e, tabsu_Pages_sum_of T, e ▸ hq⟩
theorem tabsu_Line_init (T : Txt w K mg base h) : ∀ p ∈ (MM K φ).tabs.l, p.1 = (He.cT K ("Line", some "__init__")).2 → p.2 = nm_Line_init := fun p hp e => zip_u (as := tf.map fun p => (He.cT K p).2) (bs := nms) (i := 1) (ndT T) rfl rfl p hp e
theorem tabs_Line_init (T : Txt w K mg base h) {q : Str} {pos : Pos} (e : nm_Line_init pos.line pos.col = q := by first | rfl | decide +kernel) (hq : kqN ≠ some (nm_Line_init pos.line pos.col) := by first | (intro z; cases z; done) | decide +kernel) : HasT (MM K φ).tabs (He.cT K ("Line", some "__init__")).2 q pos := ⟨nm_Line_init, List.mem_of_getElem? (i := 1) rfl, e, tabsu_Line_init T, e ▸ hq⟩
theorem tabsu_read_row (T : Txt w K mg base h) : ∀ p ∈ (MM K φ).tabs.l, p.1 = (He.cT K ("read_row", none)).2 → p.2 = nm_read_row := fun p hp e => zip_u (as := tf.map fun p => (He.cT K p).2) (bs := nms) (i := 2) (ndT T) rfl rfl p hp e
theorem tabs_read_row (T : Txt w K mg base h) {q : Str} {pos : Pos} (e : nm_read_row pos.line pos.col = q := by first | rfl | decide +kernel) (hq : kqN ≠ some (nm_read_row pos.line pos.col) := by first | (intro z; cases z; done) | decide +kernel) : HasT (MM K φ).tabs (He.cT K ("read_row", none)).2 q pos := ⟨nm_read_row, List.mem_of_getElem? (i := 2) rfl, e, tabsu_read_row T, e ▸ hq⟩
theorem tabsu_Desk_judged (T : Txt w K mg base h) : ∀ p ∈ (MM K φ).tabs.l, p.1 = (He.cT K ("Desk", some "judged")).2 → p.2 = nm_Desk_judged := fun p hp e => zip_u (as := tf.map fun p => (He.cT K p).2) (bs := nms) (i := 3) (ndT T) rfl rfl p hp e
theorem tabs_Desk_judged (T : Txt w K mg base h) {q : Str} {pos : Pos} (e : nm_Desk_judged pos.line pos.col = q := by first | rfl | decide +kernel) (hq : kqN ≠ some (nm_Desk_judged pos.line pos.col) := by first | (intro z; cases z; done) | decide +kernel) : HasT (MM K φ).tabs (He.cT K ("Desk", some "judged")).2 q pos := ⟨nm_Desk_judged, List.mem_of_getElem? (i := 3) rfl, e, tabsu_Desk_judged T, e ▸ hq⟩
theorem tabsu_law_deed (T : Txt w K mg base h) : ∀ p ∈ (MM K φ).tabs.l, p.1 = (He.cT K ("_law_deed", none)).2 → p.2 = nm_law_deed := fun p hp e => zip_u (as := tf.map fun p => (He.cT K p).2) (bs := nms) (i := 4) (ndT T) rfl rfl p hp e
theorem tabs_law_deed (T : Txt w K mg base h) {q : Str} {pos : Pos} (e : nm_law_deed pos.line pos.col = q := by first | rfl | decide +kernel) (hq : kqN ≠ some (nm_law_deed pos.line pos.col) := by first | (intro z; cases z; done) | decide +kernel) : HasT (MM K φ).tabs (He.cT K ("_law_deed", none)).2 q pos := ⟨nm_law_deed, List.mem_of_getElem? (i := 4) rfl, e, tabsu_law_deed T, e ▸ hq⟩
theorem tabsu_law (T : Txt w K mg base h) : ∀ p ∈ (MM K φ).tabs.l, p.1 = (He.cT K ("law", none)).2 → p.2 = nm_law := fun p hp e => zip_u (as := tf.map fun p => (He.cT K p).2) (bs := nms) (i := 5) (ndT T) rfl rfl p hp e
theorem tabs_law (T : Txt w K mg base h) {q : Str} {pos : Pos} (e : nm_law pos.line pos.col = q := by first | rfl | decide +kernel) (hq : kqN ≠ some (nm_law pos.line pos.col) := by first | (intro z; cases z; done) | decide +kernel) : HasT (MM K φ).tabs (He.cT K ("law", none)).2 q pos := ⟨nm_law, List.mem_of_getElem? (i := 5) rfl, e, tabsu_law T, e ▸ hq⟩
def toldH : List ExceptHandler := match defBody s_law_desk with
  | [.Try _ hs _ _ _] => hs
  | _ => []
theorem hd_told (T : Txt w K mg base h) : HdT (defScope s_law_desk) mg (MM K φ) toldH toldL :=
  .cons rfl (ge_BadDeed T) (by decide) (.nil)
theorem hx_told (T : Txt w K mg base h) : ∀ p ∈ toldL, ∀ q ∈ toldL, PySem.W.exmOne K (.ref ((MM K φ).exc p.1)) (.ref ((MM K φ).exc q.1)) = some (p.1 == q.1) := by
  intro p hp q hq
  simp only [toldL, List.mem_cons, List.not_mem_nil, or_false] at hp hq
  rcases hp with rfl <;> rcases hq with rfl
  · exact He.exm_ok (T.c.t.d.fact 47 (f := .exm "BadDeed" "BadDeed" true) rfl)
end
end L19
set_option Elab.async false
set_option linter.all false
set_option maxRecDepth 100000
set_option maxHeartbeats 4000000
namespace L19
open PySem PySem.Spec PyProof.Rows L2 DL
section
abbrev P : Program := PySem.Challenge.pw_millhall_k19_a_desk
variable {w : World} {K : PySem.W.Frag} {mg : Str → Option Value} {base h : Heap} {φ : DL.Clo}
theorem ok_Desk_init (T : Txt w K mg base h) : FnOk P w K mg base (L2.CX P w) 1 (He.fAd K ("Desk", some "__init__")) (fd_Desk_init T) ["self"] (SpIH K (MM K φ) 2 1 m_Desk_init) := by
  refine in_okH (k := 0) (N := ["self"]) (body := B_Desk_init) (F_Desk_init T) sc_Desk_init fun cdv hcd A outer s H E hr => ?_
  have nd := sc_Desk_init.nd
  have hu := hr.units
  have tk : Takes (cxOf (L2.CX P w) P w K mg base ["self"] "Desk.__init__" (defScope s_Desk_init) (He.fAd K ("Desk", some "__init__")) cdv A outer s H E) (WofE E) := takes_of rfl rfl rfl rfl
  have hW : Flat (WofE E) := fun _ _ _ _ _ z => z
  have hP : PassesOwn (model P w) (A.deeper (envOfC "Desk.__init__" (defScope s_Desk_init) s.heap.objs.size (He.fAd K ("Desk", some "__init__")) cdv)) (envOfC "Desk.__init__" (defScope s_Desk_init) s.heap.objs.size (He.fAd K ("Desk", some "__init__")) cdv) (cxOf (L2.CX P w) P w K mg base ["self"] "Desk.__init__" (defScope s_Desk_init) (He.fAd K ("Desk", some "__init__")) cdv A outer s H E).xe := PassesOwn.leaving
  exact (dss_cons (ds_fld (c := 2) (j := 0) T.cls2 (dp_v 0) de_str)
  (dss_cons (ds_fld (c := 2) (j := 1) T.cls2 (dp_v 0) (DF.han (df_lst da_nil)))
  (dss_one (ds_fld (c := 2) (j := 2) T.cls2 (dp_v 0) (DF.han (df_lst da_nil))))))
theorem okN_Pages_sum_of (T : Txt w K mg base h) : FnOk P w K mg base (L2N.CX P w) 2 (He.fAd K ("Pages", some "sum_of")) (fd_Pages_sum_of T) ["self", "deed", "owner", "kind"] (SpD K (MM K φ) 4 m_Pages_sum_of) := by
  refine fn_okN (k := 1) (N := ["self", "deed", "owner", "kind", "row"]) (body := B_Pages_sum_of) (F_Pages_sum_of T) sc_Pages_sum_of fun cdv hcd A outer s H E hr => ?_
  have nd := sc_Pages_sum_of.nd
  have hu := hr.units
  have tk : L2N.Takes (cxOf (L2N.CX P w) P w K mg base ["self", "deed", "owner", "kind", "row"] "Pages.sum_of" (defScope s_Pages_sum_of) (He.fAd K ("Pages", some "sum_of")) cdv A outer s H E) (WofE E) := L2N.takes_of rfl rfl rfl rfl
  have hW : Flat (WofE E) := fun _ _ _ _ _ z => z
  exact (dss_one (ds_ret (de_gsum (k := 0) (own := [("row", 4)]) rfl nd (hr.mono (by decide)) (T.f_sum) (T.tb ("Pages", some "sum_of") (by simp [tf])) hcd (tabs_Pages_sum_of T) (DI.s (di_tup (de_fld (c := 1) (i := 0) T.cls1 (db_v 0)))) (by first | exact (show genC ["self", "deed", "owner", "kind", "row"] (defScope s_Pages_sum_of) _ [("row", 4)] = true by decide +kernel) | decide +kernel | rfl) (fun s2 H2 C2 cd2 fp2 => (dg_name 4 nd)) (fun s2 H2 C2 cd2 fp2 => genT (k := 0) (hr.mono (by decide)) fun hr hu tk hW => (dts_one (dt_cmp (od_eq hu) (DE.b (de_tup (da_cons (de_fld (c := 0) (i := 1) T.cls0 (db_v 4)) (da_cons (de_fld (c := 0) (i := 2) T.cls0 (db_v 4)) (da_cons (de_fld (c := 0) (i := 3) T.cls0 (db_v 4)) da_nil))))) (DE.b (de_tup (da_cons (de_v 1) (da_cons (de_v 2) (da_cons (de_v 3) da_nil))))) (nomark _)))) (fun s2 H2 C2 cd2 fp2 => genE (k := 0) (hr.mono (by decide)) fun hr hu tk hW => (de_fld (c := 0) (i := 4) T.cls0 (db_v 4))))))
theorem okN_Pages_ready (T : Txt w K mg base h) : FnOk P w K mg base (L2N.CX P w) 3 (He.fAd K ("Pages", some "ready")) (fd_Pages_ready T) ["self", "owner", "kind"] (SpD K (MM K φ) 3 m_Pages_ready) := by
  refine fn_okN (k := 2) (N := ["self", "owner", "kind"]) (body := B_Pages_ready) (F_Pages_ready T) sc_Pages_ready fun cdv hcd A outer s H E hr => ?_
  have nd := sc_Pages_ready.nd
  have hu := hr.units
  have tk : L2N.Takes (cxOf (L2N.CX P w) P w K mg base ["self", "owner", "kind"] "Pages.ready" (defScope s_Pages_ready) (He.fAd K ("Pages", some "ready")) cdv A outer s H E) (WofE E) := L2N.takes_of rfl rfl rfl rfl
  have hW : Flat (WofE E) := fun _ _ _ _ _ z => z
  exact (dss_one (ds_ret (de_bin od_sub (DE.b (de_methTN (okN_Pages_sum_of T) (b_Pages_sum_of T) T.cls1 (me_Pages_sum_of T) (hr.mono (by decide)) tk (de_v 0) (da_cons de_str (da_cons (de_v 1) (da_cons (de_v 2) da_nil))))) (DE.b (de_methTN (okN_Pages_sum_of T) (b_Pages_sum_of T) T.cls1 (me_Pages_sum_of T) (hr.mono (by decide)) tk (de_v 0) (da_cons de_str (da_cons (de_v 1) (da_cons (de_v 2) da_nil))))))))
theorem ok_Pages_ready (T : Txt w K mg base h) : FnOk P w K mg base (L2.CX P w) 3 (He.fAd K ("Pages", some "ready")) (fd_Pages_ready T) ["self", "owner", "kind"] (SpD K (MM K φ) 3 m_Pages_ready) := DL.FnOk.down (okN_Pages_ready T)
theorem okN_Pages_waits (T : Txt w K mg base h) : FnOk P w K mg base (L2N.CX P w) 3 (He.fAd K ("Pages", some "waits")) (fd_Pages_waits T) ["self", "owner", "kind"] (SpD K (MM K φ) 3 m_Pages_waits) := by
  refine fn_okN (k := 2) (N := ["self", "owner", "kind"]) (body := B_Pages_waits) (F_Pages_waits T) sc_Pages_waits fun cdv hcd A outer s H E hr => ?_
  have nd := sc_Pages_waits.nd
  have hu := hr.units
  have tk : L2N.Takes (cxOf (L2N.CX P w) P w K mg base ["self", "owner", "kind"] "Pages.waits" (defScope s_Pages_waits) (He.fAd K ("Pages", some "waits")) cdv A outer s H E) (WofE E) := L2N.takes_of rfl rfl rfl rfl
  have hW : Flat (WofE E) := fun _ _ _ _ _ z => z
  exact (dss_one (ds_ret (de_bin od_sub (DE.b (de_methTN (okN_Pages_sum_of T) (b_Pages_sum_of T) T.cls1 (me_Pages_sum_of T) (hr.mono (by decide)) tk (de_v 0) (da_cons de_str (da_cons (de_v 1) (da_cons (de_v 2) da_nil))))) (DE.b (de_methTN (okN_Pages_sum_of T) (b_Pages_sum_of T) T.cls1 (me_Pages_sum_of T) (hr.mono (by decide)) tk (de_v 0) (da_cons de_str (da_cons (de_v 1) (da_cons (de_v 2) da_nil))))))))
theorem ok_Pages_waits (T : Txt w K mg base h) : FnOk P w K mg base (L2.CX P w) 3 (He.fAd K ("Pages", some "waits")) (fd_Pages_waits T) ["self", "owner", "kind"] (SpD K (MM K φ) 3 m_Pages_waits) := DL.FnOk.down (okN_Pages_waits T)
theorem okN_Pages_add (T : Txt w K mg base h) : FnOk P w K mg base (L2N.CX P w) 4 (He.fAd K ("Pages", some "add")) (fd_Pages_add T) ["self", "row"] (SpD K (MM K φ) 2 m_Pages_add) := by
  refine fn_okN (k := 3) (N := ["self", "row"]) (body := B_Pages_add) (F_Pages_add T) sc_Pages_add fun cdv hcd A outer s H E hr => ?_
  have nd := sc_Pages_add.nd
  have hu := hr.units
  have tk : L2N.Takes (cxOf (L2N.CX P w) P w K mg base ["self", "row"] "Pages.add" (defScope s_Pages_add) (He.fAd K ("Pages", some "add")) cdv A outer s H E) (WofE E) := L2N.takes_of rfl rfl rfl rfl
  have hW : Flat (WofE E) := fun _ _ _ _ _ z => z
  exact (dss_cons (ds_if (DW.t (dw_and (dt_cmp (od_neNT hu) (DE.b (de_fld (c := 1) (i := 0) T.cls1 (db_v 0))) (DE.b (de_tup da_nil)) (nomark _)) (dw_and1 (dt_cmp od_lt (DE.b (de_fld (c := 0) (i := 0) T.cls0 (db_v 1))) (DE.b (de_fld (c := 0) (i := 0) T.cls0 (DE.b (de_ix (DE.b (de_fld (c := 1) (i := 0) T.cls1 (db_v 0))) (DE.b (de_un ud_neg (DE.b de_int) (fun a b => pe_un a b))))))) (nomark _))))) (dss_one (ds_raiseRN (T.excR_BadText) tk rfl (hr.mono (by decide)) (da_cons de_int da_nil))) dss_nil)
  (dss_cons (ds_if (DW.t (dw_and (dt_cmp (od_eq hu) (DE.b (de_fld (c := 0) (i := 1) T.cls0 (db_v 1))) (DE.b de_str) (nomark _)) (dw_and1 (dt_cmp od_gt (DE.b (de_fld (c := 0) (i := 4) T.cls0 (db_v 1))) (DE.b (de_methTN (okN_Pages_waits T) (b_Pages_waits T) T.cls1 (me_Pages_waits T) (hr.mono (by decide)) tk (de_v 0) (da_cons (de_fld (c := 0) (i := 2) T.cls0 (db_v 1)) (da_cons (de_fld (c := 0) (i := 3) T.cls0 (db_v 1)) da_nil)))) (nomark _))))) (dss_one (ds_raiseRN (T.excR_BadText) tk rfl (hr.mono (by decide)) (da_cons de_int da_nil))) dss_nil)
  (dss_cons (ds_if (DW.t (dw_and (dt_cmp (od_eq hu) (DE.b (de_fld (c := 0) (i := 1) T.cls0 (db_v 1))) (DE.b de_str) (nomark _)) (dw_and1 (dt_cmp od_gt (DE.b (de_fld (c := 0) (i := 4) T.cls0 (db_v 1))) (DE.b (de_methTN (okN_Pages_ready T) (b_Pages_ready T) T.cls1 (me_Pages_ready T) (hr.mono (by decide)) tk (de_v 0) (da_cons (de_fld (c := 0) (i := 2) T.cls0 (db_v 1)) (da_cons (de_fld (c := 0) (i := 3) T.cls0 (db_v 1)) da_nil)))) (nomark _))))) (dss_one (ds_raiseRN (T.excR_BadText) tk rfl (hr.mono (by decide)) (da_cons de_int da_nil))) dss_nil)
  (dss_one (ds_fld (c := 1) (j := 0) T.cls1 (dp_v 0) (de_bin od_add (DE.b (de_fld (c := 1) (i := 0) T.cls1 (db_v 0))) (DE.b (de_tup (da_cons (de_v 1) da_nil)))))))))
theorem okN_Line_init (T : Txt w K mg base h) : FnOk P w K mg base (L2N.CX P w) 3 (He.fAd K ("Line", some "__init__")) (fd_Line_init T) ["self", "day", "deed", "owner", "kind", "bushels"] (SpI K (MM K φ) 0 6 m_Line_init) := by
  refine in_okN (k := 2) (N := ["self", "day", "deed", "owner", "kind", "bushels", "word"]) (body := B_Line_init) (F_Line_init T) sc_Line_init fun cdv hcd A outer s H E hr => ?_
  have nd := sc_Line_init.nd
  have hu := hr.units
  have tk : L2N.Takes (cxOf (L2N.CX P w) P w K mg base ["self", "day", "deed", "owner", "kind", "bushels", "word"] "Line.__init__" (defScope s_Line_init) (He.fAd K ("Line", some "__init__")) cdv A outer s H E) (WofE E) := L2N.takes_of rfl rfl rfl rfl
  have hW : Flat (WofE E) := fun _ _ _ _ _ z => z
  exact (dss_cons (ds_if (DW.t (dw_or (dt_cmp od_lt (db_v 1) (DE.b de_int) (nomark _)) (dw_or (dt_ninC (l := S_DEEDS) (db_v 2) (T.gc_DEEDS) (T.con_DEEDS)) (dw_or1 (dt_cmp od_lt (db_v 5) (DE.b de_int) (nomark _)))))) (dss_one (ds_raiseRN (T.excR_BadText) tk rfl (hr.mono (by decide)) (da_cons de_int da_nil))) dss_nil)
  (dss_cons (ds_if (dt_val (de_gany (k := 0) (own := [("word", 6)]) rfl nd (hr.mono (by decide)) (T.f_any) (T.tb ("Line", some "__init__") (by simp [tf])) hcd (tabs_Line_init T) (DI.s (di_tup (de_tup (da_cons (de_v 3) (da_cons (de_v 4) da_nil))))) (by first | exact (show genC ["self", "day", "deed", "owner", "kind", "bushels", "word"] (defScope s_Line_init) _ [("word", 6)] = true by decide +kernel) | decide +kernel | rfl) (fun s2 H2 C2 cd2 fp2 => (dg_name 6 nd)) (fun s2 H2 C2 cd2 fp2 => genT (k := 1) (hr.mono (by decide)) fun hr hu tk hW => dts_nil) (fun s2 H2 C2 cd2 fp2 => genE (k := 1) (hr.mono (by decide)) fun hr hu tk hW => (de_or (de_cmp (od_eq hu) (db_v 6) (DE.b de_str) (nomark _)) (de_or (de_cmp od_inS (DE.b de_str) (db_v 6) (by rfl)) (de_one (de_cmp od_inS (DE.b de_str) (db_v 6) (by rfl)))))))) (dss_one (ds_raiseRN (T.excR_BadText) tk rfl (hr.mono (by decide)) (da_cons de_int da_nil))) dss_nil)
  (dss_cons (ds_fld (c := 0) (j := 0) T.cls0 (dp_v 0) (de_v 1))
  (dss_cons (ds_fld (c := 0) (j := 1) T.cls0 (dp_v 0) (de_v 2))
  (dss_cons (ds_fld (c := 0) (j := 2) T.cls0 (dp_v 0) (de_v 3))
  (dss_cons (ds_fld (c := 0) (j := 3) T.cls0 (dp_v 0) (de_v 4))
  (dss_one (ds_fld (c := 0) (j := 4) T.cls0 (dp_v 0) (de_v 5)))))))))
theorem okN_Line_said (T : Txt w K mg base h) : FnOk P w K mg base (L2N.CX P w) 1 (He.fAd K ("Line", some "said")) (fd_Line_said T) ["self"] (SpD K (MM K φ) 1 m_Line_said) := by
  refine fn_okN (k := 0) (N := ["self"]) (body := B_Line_said) (F_Line_said T) sc_Line_said fun cdv hcd A outer s H E hr => ?_
  have nd := sc_Line_said.nd
  have hu := hr.units
  have tk : L2N.Takes (cxOf (L2N.CX P w) P w K mg base ["self"] "Line.said" (defScope s_Line_said) (He.fAd K ("Line", some "said")) cdv A outer s H E) (WofE E) := L2N.takes_of rfl rfl rfl rfl
  have hW : Flat (WofE E) := fun _ _ _ _ _ z => z
  exact (dss_one (ds_ret (de_mth PySem.F.plainAttrs_str PySem.F.slot_str_join PySem.F.type_str_join md_join (DE.b de_str) (dab_cons (DE.b (de_lst (da_cons (de_bty (cd_str) (T.f_str) (by decide +kernel) (dab_cons (DE.b (de_fld (c := 0) (i := 0) T.cls0 (db_v 0))) dab_nil)) (da_cons (de_fld (c := 0) (i := 1) T.cls0 (db_v 0)) (da_cons (de_fld (c := 0) (i := 2) T.cls0 (db_v 0)) (da_cons (de_fld (c := 0) (i := 3) T.cls0 (db_v 0)) (da_cons (de_bty (cd_str) (T.f_str) (by decide +kernel) (dab_cons (DE.b (de_fld (c := 0) (i := 4) T.cls0 (db_v 0))) dab_nil)) da_nil))))))) dab_nil))))
theorem ok_Line_said (T : Txt w K mg base h) : FnOk P w K mg base (L2.CX P w) 1 (He.fAd K ("Line", some "said")) (fd_Line_said T) ["self"] (SpD K (MM K φ) 1 m_Line_said) := DL.FnOk.down (okN_Line_said T)
theorem okN_read_row (T : Txt w K mg base h) : FnOk P w K mg base (L2N.CX P w) 5 (He.fAd K ("read_row", none)) (fd_read_row T) ["text"] (SpD K (MM K φ) 1 m_read_row) := by
  refine fn_okN (k := 4) (N := ["text", "words", "word", "sign", "found"]) (body := B_read_row) (F_read_row T) sc_read_row fun cdv hcd A outer s H E hr => ?_
  have nd := sc_read_row.nd
  have hu := hr.units
  have tk : L2N.Takes (cxOf (L2N.CX P w) P w K mg base ["text", "words", "word", "sign", "found"] "read_row" (defScope s_read_row) (He.fAd K ("read_row", none)) cdv A outer s H E) (WofE E) := L2N.takes_of rfl rfl rfl rfl
  have hW : Flat (WofE E) := fun _ _ _ _ _ z => z
  exact (dss_cons (ds_set 1 nd (de_mth PySem.F.plainAttrs_str PySem.F.slot_str_split PySem.F.type_str_split md_split (db_v 0) (dab_cons (DE.b de_str) dab_nil)))
  (dss_cons (ds_if (DW.t (dw_or (dt_cmp (od_ne hu) (DE.b (de_blt (cd_len) (T.f_len) (by decide +kernel) (dab_cons (db_v 1) dab_nil))) (DE.b de_int) (nomark _)) (dw_or1 (dt_val (de_gany (k := 0) (own := [("word", 2)]) rfl nd (hr.mono (by decide)) (T.f_any) (T.tb ("read_row", none) (by simp [tf])) hcd (tabs_read_row T) (DI.s (di_tup (de_tup (da_cons (de_ix (db_v 1) (DE.b de_int)) (da_cons (de_ix (db_v 1) (DE.b de_int)) da_nil))))) (by first | exact (show genC ["text", "words", "word", "sign", "found"] (defScope s_read_row) _ [("word", 2)] = true by decide +kernel) | decide +kernel | rfl) (fun s2 H2 C2 cd2 fp2 => (dg_name 2 nd)) (fun s2 H2 C2 cd2 fp2 => genT (k := 3) (hr.mono (by decide)) fun hr hu tk hW => dts_nil) (fun s2 H2 C2 cd2 fp2 => genE (k := 3) (hr.mono (by decide)) fun hr hu tk hW => (de_not (de_ch od_le od_le (DE.b de_int) (DE.b (de_blt (cd_len) (T.f_len) (by decide +kernel) (dab_cons (db_v 2) dab_nil))) (DE.b de_int))))))))) (dss_one (ds_raiseRN (T.excR_BadText) tk rfl (hr.mono (by decide)) (da_cons de_int da_nil))) dss_nil)
  (dss_cons (ds_if (dt_val (de_gany (k := 0) (own := [("sign", 3)]) rfl nd (hr.mono (by decide)) (T.f_any) (T.tb ("read_row", none) (by simp [tf])) hcd (tabs_read_row T) (DI.s (di_str (de_bin od_add (DE.b (de_ix (db_v 1) (DE.b de_int))) (DE.b (de_ix (db_v 1) (DE.b de_int)))))) (by first | exact (show genC ["text", "words", "word", "sign", "found"] (defScope s_read_row) _ [("sign", 3)] = true by decide +kernel) | decide +kernel | rfl) (fun s2 H2 C2 cd2 fp2 => (dg_name 3 nd)) (fun s2 H2 C2 cd2 fp2 => genT (k := 3) (hr.mono (by decide)) fun hr hu tk hW => dts_nil) (fun s2 H2 C2 cd2 fp2 => genE (k := 3) (hr.mono (by decide)) fun hr hu tk hW => (de_cmp od_ninS (db_v 3) (DE.b de_str) (by rfl))))) (dss_one (ds_raiseRN (T.excR_BadText) tk rfl (hr.mono (by decide)) (da_cons de_int da_nil))) dss_nil)
  (dss_cons (ds_set 4 nd (DF.deN (df_makeN (okN_Line_init T) (b_Line_init T) (mk_Line T) (g_Line T) (hr.mono (by decide)) tk hW (da_cons (de_bty (cd_intS) (T.f_int) (by decide +kernel) (dab_cons (DE.b (de_ix (db_v 1) (DE.b de_int))) dab_nil)) (da_cons (de_ix (db_v 1) (DE.b de_int)) (da_cons (de_ix (db_v 1) (DE.b de_int)) (da_cons (de_ix (db_v 1) (DE.b de_int)) (da_cons (de_bty (cd_intS) (T.f_int) (by decide +kernel) (dab_cons (DE.b (de_ix (db_v 1) (DE.b de_int))) dab_nil)) da_nil))))))))
  (dss_cons (ds_if (dt_cmp (od_ne hu) (DE.b (de_methT0N (okN_Line_said T) (b_Line_said T) T.cls0 (me_Line_said T) (hr.mono (by decide)) tk (de_v 4))) (db_v 0) (nomark _)) (dss_one (ds_raiseRN (T.excR_BadText) tk rfl (hr.mono (by decide)) (da_cons de_int da_nil))) dss_nil)
  (dss_one (ds_ret (de_v 4))))))))
theorem okQ_Pages_init (T : Txt w K mg base h) : FnOk P w K mg base (CXk P w) 6 (He.fAd K ("Pages", some "__init__")) (fd_Pages_init T) ["self", "text"] (SpIH K (MM K φ) 1 2 m_Pages_init) := by
  refine in_okHQ (k := 5) (N := ["self", "text", "k", "line"]) (body := B_Pages_init) (F_Pages_init T) sc_Pages_init fun cdv hcd A outer s H E hr => ?_
  have nd := sc_Pages_init.nd
  have hu := hr.units
  have tk : Takesk (cxOf (CXk P w) P w K mg base ["self", "text", "k", "line"] "Pages.__init__" (defScope s_Pages_init) (He.fAd K ("Pages", some "__init__")) cdv A outer s H E) (WofE E) := takes_ofk rfl rfl rfl rfl
  have hW : Flat (WofE E) := fun _ _ _ _ _ z => z
  have hP : PassesOwn (model P w) (A.deeper (envOfC "Pages.__init__" (defScope s_Pages_init) s.heap.objs.size (He.fAd K ("Pages", some "__init__")) cdv)) (envOfC "Pages.__init__" (defScope s_Pages_init) s.heap.objs.size (He.fAd K ("Pages", some "__init__")) cdv) (cxOf (CXk P w) P w K mg base ["self", "text", "k", "line"] "Pages.__init__" (defScope s_Pages_init) (He.fAd K ("Pages", some "__init__")) cdv A outer s H E).xe := PassesOwn.leaving
  exact (dss_cons (ds_fld (c := 1) (j := 0) T.cls1 (dp_v 0) (de_tup da_nil))
  (dss_one (ds_wip [true, false, false, false] (ds_forW [true, false, false, false] hP rfl (di_enum T.f_enumerate (da_cons (de_if (dt_cmp (od_eq hu) (db_v 1) (DE.b de_str) (nomark _)) (de_lst da_nil) (de_mth PySem.F.plainAttrs_str PySem.F.slot_str_split PySem.F.type_str_split md_split (db_v 1) (dab_cons (DE.b de_str) dab_nil))) da_nil)) (dg_tup rfl (dgs_cons (dg_name 2 nd) (dgs_cons (dg_name 3 nd) dgs_nil))) (dss_wip [true, false, false, false] (dss_one (ds_tryQ tk rfl (ge_BadText T) (xm_BadText T) (fun W3 pn3 xe3 tk hP => (dss_one (ds_expr (de_methTN (okN_Pages_add T) (b_Pages_add T) T.cls1 (me_Pages_add T) (hr.mono (by decide)) tk (de_v 0) (da_cons (de_callN (okN_read_row T) (b_read_row T) (k_read_row T) (g_read_row T) (hr.mono (by decide)) tk (da_cons (de_v 3) da_nil)) da_nil))))) (ri_raiseR (T.excR_BadText) (fun a3 oe3 pins3 => L2H.roomH_mark (hr.mono (by decide)) _) (fun a3 oe3 pins3 => (da_cons (de_v 2) da_nil))) (L2H.passesAt_of rfl))))))))
theorem ok_Pages_init (T : Txt w K mg base h) : FnOk P w K mg base (L2.CX P w) 6 (He.fAd K ("Pages", some "__init__")) (fd_Pages_init T) ["self", "text"] (SpIH K (MM K φ) 1 2 m_Pages_init) := DL.FnOk.downK (okQ_Pages_init T)
theorem ok_Pages_on_floor (T : Txt w K mg base h) : FnOk P w K mg base (L2.CX P w) 4 (He.fAd K ("Pages", some "on_floor")) (fd_Pages_on_floor T) ["self"] (SpD K (MM K φ) 1 m_Pages_on_floor) := by
  refine fn_okT (k := 3) (N := ["self", "found", "owner", "kind", "waits", "ready", "row"]) (body := B_Pages_on_floor) (F_Pages_on_floor T) sc_Pages_on_floor fun cdv hcd A outer s H E hr => ?_
  have nd := sc_Pages_on_floor.nd
  have hu := hr.units
  have tk : Takes (cxOf (L2.CX P w) P w K mg base ["self", "found", "owner", "kind", "waits", "ready", "row"] "Pages.on_floor" (defScope s_Pages_on_floor) (He.fAd K ("Pages", some "on_floor")) cdv A outer s H E) (WofE E) := takes_of rfl rfl rfl rfl
  have hW : Flat (WofE E) := fun _ _ _ _ _ z => z
  have hP : PassesOwn (model P w) (A.deeper (envOfC "Pages.on_floor" (defScope s_Pages_on_floor) s.heap.objs.size (He.fAd K ("Pages", some "on_floor")) cdv)) (envOfC "Pages.on_floor" (defScope s_Pages_on_floor) s.heap.objs.size (He.fAd K ("Pages", some "on_floor")) cdv) (cxOf (L2.CX P w) P w K mg base ["self", "found", "owner", "kind", "waits", "ready", "row"] "Pages.on_floor" (defScope s_Pages_on_floor) (He.fAd K ("Pages", some "on_floor")) cdv A outer s H E).xe := PassesOwn.leaving
  exact (dss_cons (ds_setO 1 nd (df_lst da_nil))
  (dss_cons (ds_wip [true, true, false, false, false, false] (ds_forW [true, true, false, false, false, false] hP rfl (di_list (de_blt (cd_sortTD rfl (u65 hr)) T.f_sorted (by decide +kernel) (dab_cons (DE.b (DF.deDT (df_dictT rfl (u65 hr) T.f_dict (dab_cons (DE.b (DF.de (df_lc (own := [("row", 6)]) rfl nd (DI.s (di_tup (de_fld (c := 1) (i := 0) T.cls1 (db_v 0)))) (by first | exact (show blkC ["self", "found", "owner", "kind", "waits", "ready", "row"] (defScope s_Pages_on_floor) _ [("row", 6)] = true by decide +kernel) | rfl) (fun s2 H2 C2 cl2 fp2 => (dg_name 6 nd)) (fun s2 H2 C2 cl2 fp2 => blkT hr fun hu tk hW => dts_nil) (fun s2 H2 C2 cl2 fp2 => blkE hr fun hu tk hW => (de_tup (da_cons (de_tup (da_cons (de_fld (c := 0) (i := 2) T.cls0 (db_v 6)) (da_cons (de_fld (c := 0) (i := 3) T.cls0 (db_v 6)) da_nil))) (da_cons de_int da_nil))))))) dab_nil)))) dab_nil))) (dg_tup rfl (dgs_cons (dg_name 2 nd) (dgs_cons (dg_name 3 nd) dgs_nil))) (dss_wip [true, true, false, false, false, false] (dss_cons (ds_par2 4 5 rfl nd (da_cons (de_methT (ok_Pages_waits T) (b_Pages_waits T) T.cls1 (me_Pages_waits T) (hr.mono (by decide)) tk (de_v 0) (da_cons (de_v 2) (da_cons (de_v 3) da_nil))) (da_cons (de_methT (ok_Pages_ready T) (b_Pages_ready T) T.cls1 (me_Pages_ready T) (hr.mono (by decide)) tk (de_v 0) (da_cons (de_v 2) (da_cons (de_v 3) da_nil))) da_nil)))
  (dss_one (ds_if (dt_cmp od_gt (DE.b (de_bin od_add (db_v 4) (db_v 5))) (DE.b de_int) (nomark _)) (dss_one (ds_mt PySem.F.plainAttrs_list PySem.F.slot_list_append PySem.F.type_list_append wm_append (dp_v 1) (da_cons (de_tup (da_cons (de_v 2) (da_cons (de_v 3) (da_cons (de_v 4) (da_cons (de_v 5) da_nil))))) da_nil))) dss_nil))))))
  (dss_one (ds_ret (de_bty (cd_tuple) (T.f_tuple) (by decide +kernel) (dab_cons (db_v 1) dab_nil))))))
theorem ok_Desk_judged (T : Txt w K mg base h) : FnOk P w K mg base (L2.CX P w) 8 (He.fAd K ("Desk", some "judged")) (fd_Desk_judged T) ["self"] (SpD K (MM K φ) 1 m_Desk_judged) := by
  refine fn_okT (k := 7) (N := ["self", "pages", "rows", "row"]) (body := B_Desk_judged) (F_Desk_judged T) sc_Desk_judged fun cdv hcd A outer s H E hr => ?_
  have nd := sc_Desk_judged.nd
  have hu := hr.units
  have tk : Takes (cxOf (L2.CX P w) P w K mg base ["self", "pages", "rows", "row"] "Desk.judged" (defScope s_Desk_judged) (He.fAd K ("Desk", some "judged")) cdv A outer s H E) (WofE E) := takes_of rfl rfl rfl rfl
  have hW : Flat (WofE E) := fun _ _ _ _ _ z => z
  have hP : PassesOwn (model P w) (A.deeper (envOfC "Desk.judged" (defScope s_Desk_judged) s.heap.objs.size (He.fAd K ("Desk", some "judged")) cdv)) (envOfC "Desk.judged" (defScope s_Desk_judged) s.heap.objs.size (He.fAd K ("Desk", some "judged")) cdv) (cxOf (L2.CX P w) P w K mg base ["self", "pages", "rows", "row"] "Desk.judged" (defScope s_Desk_judged) (He.fAd K ("Desk", some "judged")) cdv A outer s H E).xe := PassesOwn.leaving
  exact (dss_cons (ds_set 1 nd (de_makeTH (ok_Pages_init T) (b_Pages_init T) (mk_Pages T) (g_Pages T) (hr.mono (by decide)) tk (da_cons (de_fld (c := 2) (i := 0) T.cls2 (db_v 0)) da_nil)))
  (dss_cons (ds_set 2 nd (de_methT0 (ok_Pages_on_floor T) (b_Pages_on_floor T) T.cls1 (me_Pages_on_floor T) (hr.mono (by decide)) tk (de_v 1)))
  (dss_one (ds_ret (de_tup (da_cons (de_blt (cd_len) (T.f_len) (by decide +kernel) (dab_cons (DE.b (de_fld (c := 1) (i := 0) T.cls1 (db_v 1))) dab_nil)) (da_cons (de_gsum (k := 0) (own := [("row", 3)]) rfl nd (hr.mono (by decide)) (T.f_sum) (T.tb ("Desk", some "judged") (by simp [tf])) hcd (tabs_Desk_judged T) (DI.s (di_tup (de_v 2))) (by first | exact (show genC ["self", "pages", "rows", "row"] (defScope s_Desk_judged) _ [("row", 3)] = true by decide +kernel) | decide +kernel | rfl) (fun s2 H2 C2 cd2 fp2 => (dg_name 3 nd)) (fun s2 H2 C2 cd2 fp2 => genT (k := 6) (hr.mono (by decide)) fun hr hu tk hW => dts_nil) (fun s2 H2 C2 cd2 fp2 => genE (k := 6) (hr.mono (by decide)) fun hr hu tk hW => (de_ix (db_v 3) (DE.b de_int)))) (da_cons (de_gsum (k := 0) (own := [("row", 3)]) rfl nd (hr.mono (by decide)) (T.f_sum) (T.tb ("Desk", some "judged") (by simp [tf])) hcd (tabs_Desk_judged T) (DI.s (di_tup (de_v 2))) (by first | exact (show genC ["self", "pages", "rows", "row"] (defScope s_Desk_judged) _ [("row", 3)] = true by decide +kernel) | decide +kernel | rfl) (fun s2 H2 C2 cd2 fp2 => (dg_name 3 nd)) (fun s2 H2 C2 cd2 fp2 => genT (k := 6) (hr.mono (by decide)) fun hr hu tk hW => dts_nil) (fun s2 H2 C2 cd2 fp2 => genE (k := 6) (hr.mono (by decide)) fun hr hu tk hW => (de_ix (db_v 3) (DE.b de_int)))) da_nil))))))))
theorem ok_Desk_redo (T : Txt w K mg base h) : FnOk P w K mg base (L2.CX P w) 1 (He.fAd K ("Desk", some "redo")) (fd_Desk_redo T) ["self"] (SpD K (MM K φ) 1 m_Desk_redo) := by
  refine fn_okT (k := 0) (N := ["self", "deed"]) (body := B_Desk_redo) (F_Desk_redo T) sc_Desk_redo fun cdv hcd A outer s H E hr => ?_
  have nd := sc_Desk_redo.nd
  have hu := hr.units
  have tk : Takes (cxOf (L2.CX P w) P w K mg base ["self", "deed"] "Desk.redo" (defScope s_Desk_redo) (He.fAd K ("Desk", some "redo")) cdv A outer s H E) (WofE E) := takes_of rfl rfl rfl rfl
  have hW : Flat (WofE E) := fun _ _ _ _ _ z => z
  have hP : PassesOwn (model P w) (A.deeper (envOfC "Desk.redo" (defScope s_Desk_redo) s.heap.objs.size (He.fAd K ("Desk", some "redo")) cdv)) (envOfC "Desk.redo" (defScope s_Desk_redo) s.heap.objs.size (He.fAd K ("Desk", some "redo")) cdv) (cxOf (L2.CX P w) P w K mg base ["self", "deed"] "Desk.redo" (defScope s_Desk_redo) (He.fAd K ("Desk", some "redo")) cdv A outer s H E).xe := PassesOwn.leaving
  exact (dss_cons (ds_if (dt_cmp (od_eqN hu) (DE.b (de_fld (c := 2) (i := 2) T.cls2 (db_v 0))) (DE.b (de_lst da_nil)) (nomark _)) (dss_one (ds_raise (T.exc_BadDeed) tk rfl (da_cons de_str da_nil))) dss_nil)
  (dss_cons (ds_popL 1 nd (dp_e (de_fld (c := 2) (i := 2) T.cls2 (db_v 0))))
  (dss_cons (ds_mt PySem.F.plainAttrs_list PySem.F.slot_list_append PySem.F.type_list_append wm_append (dp_e (de_fld (c := 2) (i := 1) T.cls2 (db_v 0))) (da_cons (de_v 1) da_nil))
  (dss_one (ds_fld (c := 2) (j := 0) T.cls2 (dp_v 0) (de_ix (db_v 1) (DE.b de_int)))))))
theorem ok_Desk_undo (T : Txt w K mg base h) : FnOk P w K mg base (L2.CX P w) 1 (He.fAd K ("Desk", some "undo")) (fd_Desk_undo T) ["self"] (SpD K (MM K φ) 1 m_Desk_undo) := by
  refine fn_okT (k := 0) (N := ["self", "deed"]) (body := B_Desk_undo) (F_Desk_undo T) sc_Desk_undo fun cdv hcd A outer s H E hr => ?_
  have nd := sc_Desk_undo.nd
  have hu := hr.units
  have tk : Takes (cxOf (L2.CX P w) P w K mg base ["self", "deed"] "Desk.undo" (defScope s_Desk_undo) (He.fAd K ("Desk", some "undo")) cdv A outer s H E) (WofE E) := takes_of rfl rfl rfl rfl
  have hW : Flat (WofE E) := fun _ _ _ _ _ z => z
  have hP : PassesOwn (model P w) (A.deeper (envOfC "Desk.undo" (defScope s_Desk_undo) s.heap.objs.size (He.fAd K ("Desk", some "undo")) cdv)) (envOfC "Desk.undo" (defScope s_Desk_undo) s.heap.objs.size (He.fAd K ("Desk", some "undo")) cdv) (cxOf (L2.CX P w) P w K mg base ["self", "deed"] "Desk.undo" (defScope s_Desk_undo) (He.fAd K ("Desk", some "undo")) cdv A outer s H E).xe := PassesOwn.leaving
  exact (dss_cons (ds_if (dt_cmp (od_eqN hu) (DE.b (de_fld (c := 2) (i := 1) T.cls2 (db_v 0))) (DE.b (de_lst da_nil)) (nomark _)) (dss_one (ds_raise (T.exc_BadDeed) tk rfl (da_cons de_str da_nil))) dss_nil)
  (dss_cons (ds_popL 1 nd (dp_e (de_fld (c := 2) (i := 1) T.cls2 (db_v 0))))
  (dss_cons (ds_mt PySem.F.plainAttrs_list PySem.F.slot_list_append PySem.F.type_list_append wm_append (dp_e (de_fld (c := 2) (i := 2) T.cls2 (db_v 0))) (da_cons (de_v 1) da_nil))
  (dss_one (ds_fld (c := 2) (j := 0) T.cls2 (dp_v 0) (de_ix (db_v 1) (DE.b de_int)))))))
theorem ok_Desk_note (T : Txt w K mg base h) : FnOk P w K mg base (L2.CX P w) 1 (He.fAd K ("Desk", some "note")) (fd_Desk_note T) ["self", "text"] (SpD K (MM K φ) 2 m_Desk_note) := by
  refine fn_okT (k := 0) (N := ["self", "text"]) (body := B_Desk_note) (F_Desk_note T) sc_Desk_note fun cdv hcd A outer s H E hr => ?_
  have nd := sc_Desk_note.nd
  have hu := hr.units
  have tk : Takes (cxOf (L2.CX P w) P w K mg base ["self", "text"] "Desk.note" (defScope s_Desk_note) (He.fAd K ("Desk", some "note")) cdv A outer s H E) (WofE E) := takes_of rfl rfl rfl rfl
  have hW : Flat (WofE E) := fun _ _ _ _ _ z => z
  have hP : PassesOwn (model P w) (A.deeper (envOfC "Desk.note" (defScope s_Desk_note) s.heap.objs.size (He.fAd K ("Desk", some "note")) cdv)) (envOfC "Desk.note" (defScope s_Desk_note) s.heap.objs.size (He.fAd K ("Desk", some "note")) cdv) (cxOf (L2.CX P w) P w K mg base ["self", "text"] "Desk.note" (defScope s_Desk_note) (He.fAd K ("Desk", some "note")) cdv A outer s H E).xe := PassesOwn.leaving
  exact (dss_cons (ds_if (DW.t (dw_or (dt_cmp (od_eq hu) (db_v 1) (DE.b (de_fld (c := 2) (i := 0) T.cls2 (db_v 0))) (nomark _)) (dw_or1 (dt_cmp od_gt (DE.b (de_blt (cd_len) (T.f_len) (by decide +kernel) (dab_cons (db_v 1) dab_nil))) (DE.b de_int) (nomark _))))) (dss_one (ds_raise (T.exc_BadDeed) tk rfl (da_cons de_str da_nil))) dss_nil)
  (dss_cons (ds_mt PySem.F.plainAttrs_list PySem.F.slot_list_append PySem.F.type_list_append wm_append (dp_e (de_fld (c := 2) (i := 1) T.cls2 (db_v 0))) (da_cons (de_tup (da_cons (de_fld (c := 2) (i := 0) T.cls2 (db_v 0)) (da_cons (de_v 1) da_nil))) da_nil))
  (dss_cons (ds_fld (c := 2) (j := 2) T.cls2 (dp_v 0) (DF.han (df_lst da_nil)))
  (dss_one (ds_fld (c := 2) (j := 0) T.cls2 (dp_v 0) (de_v 1))))))
theorem okN_Pages_said (T : Txt w K mg base h) : FnOk P w K mg base (L2N.CX P w) 4 (He.fAd K ("Pages", some "said")) (fd_Pages_said T) ["self"] (SpD K (MM K φ) 1 m_Pages_said) := by
  refine fn_okN (k := 3) (N := ["self", "row"]) (body := B_Pages_said) (F_Pages_said T) sc_Pages_said fun cdv hcd A outer s H E hr => ?_
  have nd := sc_Pages_said.nd
  have hu := hr.units
  have tk : L2N.Takes (cxOf (L2N.CX P w) P w K mg base ["self", "row"] "Pages.said" (defScope s_Pages_said) (He.fAd K ("Pages", some "said")) cdv A outer s H E) (WofE E) := L2N.takes_of rfl rfl rfl rfl
  have hW : Flat (WofE E) := fun _ _ _ _ _ z => z
  exact (dss_one (ds_ret (de_mth PySem.F.plainAttrs_str PySem.F.slot_str_join PySem.F.type_str_join md_join (DE.b de_str) (dab_cons (DE.b (DF.de (df_lc (own := [("row", 1)]) rfl nd (DI.s (di_tup (de_fld (c := 1) (i := 0) T.cls1 (db_v 0)))) (by first | exact (show blkC ["self", "row"] (defScope s_Pages_said) _ [("row", 1)] = true by decide +kernel) | rfl) (fun s2 H2 C2 cl2 fp2 => (dg_name 1 nd)) (fun s2 H2 C2 cl2 fp2 => blkT hr fun hu tk hW => dts_nil) (fun s2 H2 C2 cl2 fp2 => blkE hr fun hu tk hW => (de_methT0 (ok_Line_said T) (b_Line_said T) T.cls0 (me_Line_said T) (hr.mono (by decide)) tk (de_v 1)))))) dab_nil))))
theorem okQ_Pages_without_last (T : Txt w K mg base h) : FnOk P w K mg base (CXk P w) 8 (He.fAd K ("Pages", some "without_last")) (fd_Pages_without_last T) ["self"] (SpD K (MM K φ) 1 m_Pages_without_last) := by
  refine fn_okQ (k := 7) (N := ["self", "row"]) (body := B_Pages_without_last) (F_Pages_without_last T) sc_Pages_without_last fun cdv hcd A outer s H E hr => ?_
  have nd := sc_Pages_without_last.nd
  have hu := hr.units
  have tk : Takesk (cxOf (CXk P w) P w K mg base ["self", "row"] "Pages.without_last" (defScope s_Pages_without_last) (He.fAd K ("Pages", some "without_last")) cdv A outer s H E) (WofE E) := takes_ofk rfl rfl rfl rfl
  have hW : Flat (WofE E) := fun _ _ _ _ _ z => z
  have hP : PassesOwn (model P w) (A.deeper (envOfC "Pages.without_last" (defScope s_Pages_without_last) s.heap.objs.size (He.fAd K ("Pages", some "without_last")) cdv)) (envOfC "Pages.without_last" (defScope s_Pages_without_last) s.heap.objs.size (He.fAd K ("Pages", some "without_last")) cdv) (cxOf (CXk P w) P w K mg base ["self", "row"] "Pages.without_last" (defScope s_Pages_without_last) (He.fAd K ("Pages", some "without_last")) cdv A outer s H E).xe := PassesOwn.leaving
  exact (dss_cons (ds_if (dt_cmp (od_eqNT hu) (DE.b (de_fld (c := 1) (i := 0) T.cls1 (db_v 0))) (DE.b (de_tup da_nil)) (nomark _)) (dss_one (ds_raiseRN (T.excR_BadText) tk.n rfl (hr.mono (by decide)) (da_cons de_int da_nil))) dss_nil)
  (dss_one (ds_ret (de_makeTHQ (okQ_Pages_init T) (b_Pages_init T) (mk_Pages T) (g_Pages T) (hr.mono (by decide)) tk (da_cons (de_mth PySem.F.plainAttrs_str PySem.F.slot_str_join PySem.F.type_str_join md_join (DE.b de_str) (dab_cons (DE.b (DF.de (df_lc (own := [("row", 1)]) rfl nd (DI.s (di_tup (de_slice (DE.b (de_fld (c := 1) (i := 0) T.cls1 (db_v 0))) do_none (do_some (de_un ud_neg (DE.b de_int) (fun a b => pe_un a b)))))) (by first | exact (show blkC ["self", "row"] (defScope s_Pages_without_last) _ [("row", 1)] = true by decide +kernel) | rfl) (fun s2 H2 C2 cl2 fp2 => (dg_name 1 nd)) (fun s2 H2 C2 cl2 fp2 => blkT hr fun hu tk hW => dts_nil) (fun s2 H2 C2 cl2 fp2 => blkE hr fun hu tk hW => (de_methT0 (ok_Line_said T) (b_Line_said T) T.cls0 (me_Line_said T) (hr.mono (by decide)) tk (de_v 1)))))) dab_nil)) da_nil)))))
theorem ok_Desk_strike (T : Txt w K mg base h) : FnOk P w K mg base (L2.CX P w) 9 (He.fAd K ("Desk", some "strike")) (fd_Desk_strike T) ["self"] (SpD K (MM K φ) 1 m_Desk_strike) := by
  refine fn_okT (k := 8) (N := ["self", "fresh"]) (body := B_Desk_strike) (F_Desk_strike T) sc_Desk_strike fun cdv hcd A outer s H E hr => ?_
  have nd := sc_Desk_strike.nd
  have hu := hr.units
  have tk : Takes (cxOf (L2.CX P w) P w K mg base ["self", "fresh"] "Desk.strike" (defScope s_Desk_strike) (He.fAd K ("Desk", some "strike")) cdv A outer s H E) (WofE E) := takes_of rfl rfl rfl rfl
  have hW : Flat (WofE E) := fun _ _ _ _ _ z => z
  have hP : PassesOwn (model P w) (A.deeper (envOfC "Desk.strike" (defScope s_Desk_strike) s.heap.objs.size (He.fAd K ("Desk", some "strike")) cdv)) (envOfC "Desk.strike" (defScope s_Desk_strike) s.heap.objs.size (He.fAd K ("Desk", some "strike")) cdv) (cxOf (L2.CX P w) P w K mg base ["self", "fresh"] "Desk.strike" (defScope s_Desk_strike) (He.fAd K ("Desk", some "strike")) cdv A outer s H E).xe := PassesOwn.leaving
  exact (dss_cons (ds_tryK tk rfl (ge_MillFault T) (xm_BadText_MillFault T) (fun W3 pn3 xe3 tk hP => (dss_one (ds_set 1 nd (de_methT0N (okN_Pages_said T) (b_Pages_said T) T.cls1 (me_Pages_said T) (hr.mono (by decide)) tk.n (de_methT0Q (okQ_Pages_without_last T) (b_Pages_without_last T) T.cls1 (me_Pages_without_last T) (hr.mono (by decide)) tk (de_makeTHQ (okQ_Pages_init T) (b_Pages_init T) (mk_Pages T) (g_Pages T) (hr.mono (by decide)) tk (da_cons (de_fld (c := 2) (i := 0) T.cls2 (db_v 0)) da_nil))))))) (ri_raise (T.exc_BadDeed) (fun a3 oe3 pins3 => (da_cons de_str da_nil))) (L2H.passesAt_of rfl))
  (dss_one (ds_expr (de_methT (ok_Desk_note T) (b_Desk_note T) T.cls2 (me_Desk_note T) (hr.mono (by decide)) tk (de_v 0) (da_cons (de_v 1) da_nil)))))
theorem okQ_Pages_with_row (T : Txt w K mg base h) : FnOk P w K mg base (CXk P w) 8 (He.fAd K ("Pages", some "with_row")) (fd_Pages_with_row T) ["self", "text"] (SpD K (MM K φ) 2 m_Pages_with_row) := by
  refine fn_okQ (k := 7) (N := ["self", "text", "there"]) (body := B_Pages_with_row) (F_Pages_with_row T) sc_Pages_with_row fun cdv hcd A outer s H E hr => ?_
  have nd := sc_Pages_with_row.nd
  have hu := hr.units
  have tk : Takesk (cxOf (CXk P w) P w K mg base ["self", "text", "there"] "Pages.with_row" (defScope s_Pages_with_row) (He.fAd K ("Pages", some "with_row")) cdv A outer s H E) (WofE E) := takes_ofk rfl rfl rfl rfl
  have hW : Flat (WofE E) := fun _ _ _ _ _ z => z
  have hP : PassesOwn (model P w) (A.deeper (envOfC "Pages.with_row" (defScope s_Pages_with_row) s.heap.objs.size (He.fAd K ("Pages", some "with_row")) cdv)) (envOfC "Pages.with_row" (defScope s_Pages_with_row) s.heap.objs.size (He.fAd K ("Pages", some "with_row")) cdv) (cxOf (CXk P w) P w K mg base ["self", "text", "there"] "Pages.with_row" (defScope s_Pages_with_row) (He.fAd K ("Pages", some "with_row")) cdv A outer s H E).xe := PassesOwn.leaving
  exact (dss_cons (ds_expr (de_callN (okN_read_row T) (b_read_row T) (k_read_row T) (g_read_row T) (hr.mono (by decide)) tk.n (da_cons (de_v 1) da_nil)))
  (dss_cons (ds_set 2 nd (de_methT0N (okN_Pages_said T) (b_Pages_said T) T.cls1 (me_Pages_said T) (hr.mono (by decide)) tk.n (de_v 0)))
  (dss_one (ds_ret (de_makeTHQ (okQ_Pages_init T) (b_Pages_init T) (mk_Pages T) (g_Pages T) (hr.mono (by decide)) tk (da_cons (de_if (dt_cmp (od_eq hu) (db_v 2) (DE.b de_str) (nomark _)) (de_v 1) (de_bin od_add (DE.b (de_bin od_add (db_v 2) (DE.b de_str))) (db_v 1))) da_nil))))))
theorem ok_Desk_tell (T : Txt w K mg base h) : FnOk P w K mg base (L2.CX P w) 9 (He.fAd K ("Desk", some "tell")) (fd_Desk_tell T) ["self", "row"] (SpD K (MM K φ) 2 m_Desk_tell) := by
  refine fn_okT (k := 8) (N := ["self", "row", "fresh"]) (body := B_Desk_tell) (F_Desk_tell T) sc_Desk_tell fun cdv hcd A outer s H E hr => ?_
  have nd := sc_Desk_tell.nd
  have hu := hr.units
  have tk : Takes (cxOf (L2.CX P w) P w K mg base ["self", "row", "fresh"] "Desk.tell" (defScope s_Desk_tell) (He.fAd K ("Desk", some "tell")) cdv A outer s H E) (WofE E) := takes_of rfl rfl rfl rfl
  have hW : Flat (WofE E) := fun _ _ _ _ _ z => z
  have hP : PassesOwn (model P w) (A.deeper (envOfC "Desk.tell" (defScope s_Desk_tell) s.heap.objs.size (He.fAd K ("Desk", some "tell")) cdv)) (envOfC "Desk.tell" (defScope s_Desk_tell) s.heap.objs.size (He.fAd K ("Desk", some "tell")) cdv) (cxOf (L2.CX P w) P w K mg base ["self", "row", "fresh"] "Desk.tell" (defScope s_Desk_tell) (He.fAd K ("Desk", some "tell")) cdv A outer s H E).xe := PassesOwn.leaving
  exact (dss_cons (ds_tryK tk rfl (ge_MillFault T) (xm_BadText_MillFault T) (fun W3 pn3 xe3 tk hP => (dss_one (ds_set 2 nd (de_methT0N (okN_Pages_said T) (b_Pages_said T) T.cls1 (me_Pages_said T) (hr.mono (by decide)) tk.n (de_methTQ (okQ_Pages_with_row T) (b_Pages_with_row T) T.cls1 (me_Pages_with_row T) (hr.mono (by decide)) tk (de_makeTHQ (okQ_Pages_init T) (b_Pages_init T) (mk_Pages T) (g_Pages T) (hr.mono (by decide)) tk (da_cons (de_fld (c := 2) (i := 0) T.cls2 (db_v 0)) da_nil)) (da_cons (de_v 1) da_nil)))))) (ri_raise (T.exc_BadDeed) (fun a3 oe3 pins3 => (da_cons de_str da_nil))) (L2H.passesAt_of rfl))
  (dss_one (ds_expr (de_methT (ok_Desk_note T) (b_Desk_note T) T.cls2 (me_Desk_note T) (hr.mono (by decide)) tk (de_v 0) (da_cons (de_v 2) da_nil)))))
theorem ok_law_roll (T : Txt w K mg base h) : FnOk P w K mg base (L2.CX P w) 1 (He.fAd K ("_law_roll", none)) (fd_law_roll T) ["dice", "many"] (SpD K (MM K φ) 2 m_law_roll) := by
  refine fn_okT (k := 0) (N := ["dice", "many", "found"]) (body := B_law_roll) (F_law_roll T) sc_law_roll fun cdv hcd A outer s H E hr => ?_
  have nd := sc_law_roll.nd
  have hu := hr.units
  have tk : Takes (cxOf (L2.CX P w) P w K mg base ["dice", "many", "found"] "_law_roll" (defScope s_law_roll) (He.fAd K ("_law_roll", none)) cdv A outer s H E) (WofE E) := takes_of rfl rfl rfl rfl
  have hW : Flat (WofE E) := fun _ _ _ _ _ z => z
  have hP : PassesOwn (model P w) (A.deeper (envOfC "_law_roll" (defScope s_law_roll) s.heap.objs.size (He.fAd K ("_law_roll", none)) cdv)) (envOfC "_law_roll" (defScope s_law_roll) s.heap.objs.size (He.fAd K ("_law_roll", none)) cdv) (cxOf (L2.CX P w) P w K mg base ["dice", "many", "found"] "_law_roll" (defScope s_law_roll) (He.fAd K ("_law_roll", none)) cdv A outer s H E).xe := PassesOwn.leaving
  exact (dss_cons (ds_if (DW.t (dw_or (dt_cmp (od_eq hu) (DE.b (de_ix (db_v 0) (DE.b de_int))) (DE.b de_int) (nomark _)) (dw_or1 (DW.t (dw_and (dt_cmp (od_eq hu) (DE.b (de_ix (db_v 0) (DE.b de_int))) (DE.b de_int) (nomark _)) (dw_and1 (dt_cmp od_gt (DE.b (de_ix (db_v 0) (DE.b de_int))) (DE.b de_int) (nomark _)))))))) (dss_cons (ds_set 2 nd (de_bin od_mod (DE.b (de_bty (cd_int) (T.f_int) (by decide +kernel) (dab_cons (DE.b (de_ix (db_v 0) (DE.b de_int))) dab_nil))) (db_v 1)))
  (dss_cons (ds_st (de_bin od_div (DE.b (de_ix (db_v 0) (DE.b de_int))) (db_v 1)) (dp_v 0) de_int si_list)
  (dss_one (ds_ret (de_v 2))))) dss_nil)
  (dss_cons (ds_st de_int (dp_v 0) de_int si_list)
  (dss_cons (ds_st (de_bin od_mod (DE.b (de_bty (cd_int) (T.f_int) (by decide +kernel) (dab_cons (DE.b (de_bin od_add (DE.b (de_bin od_add (DE.b (de_bin od_mul (DE.b (de_ix (db_v 0) (DE.b de_int))) (DE.b de_int))) (DE.b (de_bin od_mul (DE.b (de_ix (db_v 0) (DE.b de_int))) (DE.b de_int))))) (DE.b de_int))) dab_nil))) (DE.b de_int)) (dp_v 0) de_int si_list)
  (dss_cons (ds_st (de_bin od_add (DE.b (de_ix (db_v 0) (DE.b de_int))) (DE.b de_int)) (dp_v 0) de_int si_list)
  (dss_one (ds_ret (de_bin od_mod (DE.b (de_bty (cd_int) (T.f_int) (by decide +kernel) (dab_cons (DE.b (de_bin od_add (DE.b (de_bin od_div (DE.b (de_ix (db_v 0) (DE.b de_int))) (DE.b de_int))) (DE.b (de_ix (db_v 0) (DE.b de_int))))) dab_nil))) (db_v 1))))))))
theorem ok_law_sum (T : Txt w K mg base h) : FnOk P w K mg base (L2.CX P w) 1 (He.fAd K ("_law_sum", none)) (fd_law_sum T) ["rows", "deed"] (SpD K (MM K φ) 2 m_law_sum) := by
  refine fn_okT (k := 0) (N := ["rows", "deed", "row"]) (body := B_law_sum) (F_law_sum T) sc_law_sum fun cdv hcd A outer s H E hr => ?_
  have nd := sc_law_sum.nd
  have hu := hr.units
  have tk : Takes (cxOf (L2.CX P w) P w K mg base ["rows", "deed", "row"] "_law_sum" (defScope s_law_sum) (He.fAd K ("_law_sum", none)) cdv A outer s H E) (WofE E) := takes_of rfl rfl rfl rfl
  have hW : Flat (WofE E) := fun _ _ _ _ _ z => z
  have hP : PassesOwn (model P w) (A.deeper (envOfC "_law_sum" (defScope s_law_sum) s.heap.objs.size (He.fAd K ("_law_sum", none)) cdv)) (envOfC "_law_sum" (defScope s_law_sum) s.heap.objs.size (He.fAd K ("_law_sum", none)) cdv) (cxOf (L2.CX P w) P w K mg base ["rows", "deed", "row"] "_law_sum" (defScope s_law_sum) (He.fAd K ("_law_sum", none)) cdv A outer s H E).xe := PassesOwn.leaving
  exact (dss_one (ds_ret (de_blt (cd_sum rfl) (T.f_sum) (by decide +kernel) (dab_cons (DE.b (DF.de (df_lc (own := [("row", 2)]) rfl nd (DI.s (di_list (de_v 0))) (by first | exact (show blkC ["rows", "deed", "row"] (defScope s_law_sum) _ [("row", 2)] = true by decide +kernel) | rfl) (fun s2 H2 C2 cl2 fp2 => (dg_name 2 nd)) (fun s2 H2 C2 cl2 fp2 => blkT hr fun hu tk hW => (dts_one (dt_cmp (od_eq hu) (DE.b (de_ix (DE.b (de_mth PySem.F.plainAttrs_str PySem.F.slot_str_split PySem.F.type_str_split md_split (db_v 2) (dab_cons (DE.b de_str) dab_nil))) (DE.b de_int))) (db_v 1) (nomark _)))) (fun s2 H2 C2 cl2 fp2 => blkE hr fun hu tk hW => (de_bty (cd_intS) (T.f_int) (by decide +kernel) (dab_cons (DE.b (de_ix (DE.b (de_mth PySem.F.plainAttrs_str PySem.F.slot_str_split PySem.F.type_str_split md_split (db_v 2) (dab_cons (DE.b de_str) dab_nil))) (DE.b de_int))) dab_nil)))))) dab_nil))))
abbrev CK (P : Program) (w : World) (K : PySem.W.Frag) (mg : Str → Option Value) (base : Heap) : DL.Clo := CloK (L2.CX P w) P w K mg base ["desk", "dice", "now", "rows", "day", "deed", "many", "row", "last", "most", "fine"] "_law_deed" (defScope s_law_deed) (He.fAd K ("_law_deed", none)) (.ref (He.cT K ("_law_deed", none)).1) clos capt
theorem ok_law_deed (T : Txt w K mg base h) : FnOk P w K mg base (L2.CX P w) 12 (He.fAd K ("_law_deed", none)) (fd_law_deed T) ["desk", "dice", "now"] (SpD K (MM K (CK P w K mg base)) 3 m_law_deed) := by
  refine fn_okK (M := MM K DL.Clo.nil) (k := 11) (N := ["desk", "dice", "now", "rows", "day", "deed", "many", "row", "last", "most", "fine"]) (body := B_law_deed) (F_law_deed T) sc_law_deed fun cdv hcd A outer s H E hr => ?_
  show DSR (MM K (Clo.of (envOfC "_law_deed" (defScope s_law_deed) s.heap.objs.size (He.fAd K ("_law_deed", none)) cdv) clos)) _ _ _
  have nd := sc_law_deed.nd
  have hu := hr.units
  have tk : Takes (cxOf (L2.CX P w) P w K mg base ["desk", "dice", "now", "rows", "day", "deed", "many", "row", "last", "most", "fine"] "_law_deed" (defScope s_law_deed) (He.fAd K ("_law_deed", none)) cdv A outer s H E) (WofE E) := takes_of rfl rfl rfl rfl
  have hW : Flat (WofE E) := fun _ _ _ _ _ z => z
  have hP : PassesOwn (model P w) (A.deeper (envOfC "_law_deed" (defScope s_law_deed) s.heap.objs.size (He.fAd K ("_law_deed", none)) cdv)) (envOfC "_law_deed" (defScope s_law_deed) s.heap.objs.size (He.fAd K ("_law_deed", none)) cdv) (cxOf (L2.CX P w) P w K mg base ["desk", "dice", "now", "rows", "day", "deed", "many", "row", "last", "most", "fine"] "_law_deed" (defScope s_law_deed) (He.fAd K ("_law_deed", none)) cdv A outer s H E).xe := PassesOwn.leaving
  exact (dsr_cons (W := WofE E) (ds_set 3 nd (de_if (dt_cmp (od_ne hu) (db_v 2) (DE.b de_str) (nomark _)) (de_mth PySem.F.plainAttrs_str PySem.F.slot_str_split PySem.F.type_str_split md_split (db_v 2) (dab_cons (DE.b de_str) dab_nil)) (de_lst da_nil)))
  (dsr_if (W := WofE E) (dt_cmp (od_eq hu) (DE.b (de_call (ok_law_roll T) (b_law_roll T) (k_law_roll T) (g_law_roll T) (hr.mono (by decide)) tk (da_cons (de_v 1) (da_cons de_int da_nil)))) (DE.b de_int) (nomark _)) (dsr_ret (W := WofE E) (de_tup (da_cons (de_cloK (MK := MM K) (fun _ _ => rfl) 0 rfl (T.tb ("_law_deed", none) (by simp [tf])) hcd (tabs_law_deed T) (L := LamX.lamS_by (show LamX.lamSB (defScope s_law_deed) _ = true by decide +kernel))) (da_cons (de_if (dt_cmp (od_neN hu) (db_v 3) (DE.b (de_lst da_nil)) (nomark _)) (de_mth PySem.F.plainAttrs_str PySem.F.slot_str_join PySem.F.type_str_join md_join (DE.b de_str) (dab_cons (DE.b (de_slice (db_v 3) do_none (do_some (de_bin od_sub (DE.b (de_blt (cd_len) (T.f_len) (by decide +kernel) (dab_cons (db_v 3) dab_nil))) (DE.b de_int))))) dab_nil)) (de_v 2)) da_nil))))
  (dsr_cons (W := WofE E) (ds_par3 4 5 6 rfl nd (da_cons (de_call (ok_law_roll T) (b_law_roll T) (k_law_roll T) (g_law_roll T) (hr.mono (by decide)) tk (da_cons (de_v 1) (da_cons de_int da_nil))) (da_cons (de_ix (DE.b (de_lst (da_cons de_str (da_cons de_str (da_cons de_str (da_cons de_str da_nil)))))) (DE.b (de_call (ok_law_roll T) (b_law_roll T) (k_law_roll T) (g_law_roll T) (hr.mono (by decide)) tk (da_cons (de_v 1) (da_cons de_int da_nil))))) (da_cons (de_call (ok_law_roll T) (b_law_roll T) (k_law_roll T) (g_law_roll T) (hr.mono (by decide)) tk (da_cons (de_v 1) (da_cons de_int da_nil))) da_nil))))
  (dsr_cons (W := WofE E) (ds_set 7 nd (de_mth PySem.F.plainAttrs_str PySem.F.slot_str_join PySem.F.type_str_join md_join (DE.b de_str) (dab_cons (DE.b (de_lst (da_cons (de_bty (cd_str) (T.f_str) (by decide +kernel) (dab_cons (db_v 4) dab_nil)) (da_cons (de_v 5) (da_cons de_str (da_cons de_str (da_cons (de_bty (cd_str) (T.f_str) (by decide +kernel) (dab_cons (db_v 6) dab_nil)) da_nil))))))) dab_nil)))
  (dsr_cons (W := WofE E) (ds_set 8 nd (de_if (dt_cmp (od_neN hu) (db_v 3) (DE.b (de_lst da_nil)) (nomark _)) (de_bty (cd_intS) (T.f_int) (by decide +kernel) (dab_cons (DE.b (de_ix (DE.b (de_mth PySem.F.plainAttrs_str PySem.F.slot_str_split PySem.F.type_str_split md_split (DE.b (de_ix (db_v 3) (DE.b (de_bin od_sub (DE.b (de_blt (cd_len) (T.f_len) (by decide +kernel) (dab_cons (db_v 3) dab_nil))) (DE.b de_int))))) (dab_cons (DE.b de_str) dab_nil))) (DE.b de_int))) dab_nil)) de_int))
  (dsr_cons (W := WofE E) (ds_set 9 nd (de_dix (u1 hu) (DE.b (DF.deD (df_disp (dp_cons de_str de_int (dp_cons de_str (de_bin od_sub (DE.b (de_call (ok_law_sum T) (b_law_sum T) (k_law_sum T) (g_law_sum T) (hr.mono (by decide)) tk (da_cons (de_v 3) (da_cons de_str da_nil)))) (DE.b (de_call (ok_law_sum T) (b_law_sum T) (k_law_sum T) (g_law_sum T) (hr.mono (by decide)) tk (da_cons (de_v 3) (da_cons de_str da_nil))))) (dp_cons de_str (de_bin od_sub (DE.b (de_call (ok_law_sum T) (b_law_sum T) (k_law_sum T) (g_law_sum T) (hr.mono (by decide)) tk (da_cons (de_v 3) (da_cons de_str da_nil)))) (DE.b (de_call (ok_law_sum T) (b_law_sum T) (k_law_sum T) (g_law_sum T) (hr.mono (by decide)) tk (da_cons (de_v 3) (da_cons de_str da_nil))))) (dp_cons de_str de_int dp_nil))))))) (db_v 5)))
  (dsr_cons (W := WofE E) (ds_set 10 nd (de_and (de_cmp od_ge (db_v 4) (db_v 8) (nomark _)) (de_one (de_ch od_le od_le (DE.b de_int) (db_v 6) (db_v 9)))))
  (dsr_ret (W := WofE E) (de_tup (da_cons (de_cloK (MK := MM K) (fun _ _ => rfl) 1 rfl (T.tb ("_law_deed", none) (by simp [tf])) hcd (tabs_law_deed T) (L := LamX.lamS_by (show LamX.lamSB (defScope s_law_deed) _ = true by decide +kernel))) (da_cons (de_if (dt_val (de_v 10)) (de_mth PySem.F.plainAttrs_str PySem.F.slot_str_join PySem.F.type_str_join md_join (DE.b de_str) (dab_cons (DE.b (de_bin od_add (db_v 3) (DE.b (de_lst (da_cons (de_v 7) da_nil))))) dab_nil)) (de_v 2)) da_nil)))))))))))
theorem ok_law_desk (T : Txt w K mg base h) : FnOk P w K mg base (L2.CX P w) 14 (He.fAd K ("_law_desk", none)) (fd_law_desk T) ["what"] (SpD K (MM K (CK P w K mg base)) 1 m_law_desk) := by
  refine fn_okL (M := MM K DL.Clo.nil) (k := 12) (F_law_desk T) (b_law_desk T) sc_law_desk rfl (hd_told (φ := CK P w K mg base) T) (hx_told T) rfl (.inl rfl) (by decide) (by decide) fun j lm fb hj hf A1 outer1 s1 H1 E1 X hX => ?_
  subst hX
  match j, hj, hf with
  | 0, hj, hf =>
    obtain rfl : _ = lm := Option.some.inj hj
    obtain rfl : FB_0 = fb := Option.some.inj hf
    exact ⟨⟨LamX.lamS_by (show LamX.lamSB (defScope s_law_deed) _ = true by decide +kernel), by intros; rfl⟩, fun A2 outer2 s2 H2 E2 f2 c2 hr => (show DE (MM K (CK P w K mg base)) _ _ _ FB_0 from de_lam hr fun hu tk hW => (de_methT0 (ok_Desk_strike T) (b_Desk_strike T) T.cls2 (me_Desk_strike T) (hr.mono (by decide)) tk (de_v 0)))⟩
  | 1, hj, hf =>
    obtain rfl : _ = lm := Option.some.inj hj
    obtain rfl : FB_1 = fb := Option.some.inj hf
    exact ⟨⟨LamX.lamS_by (show LamX.lamSB (defScope s_law_deed) _ = true by decide +kernel), by intros; rfl⟩, fun A2 outer2 s2 H2 E2 f2 c2 hr => (show DE (MM K (CK P w K mg base)) _ _ _ FB_1 from de_lam hr fun hu tk hW => (de_methT (ok_Desk_tell T) (b_Desk_tell T) T.cls2 (me_Desk_tell T) (hr.mono (by decide)) tk (de_v 0) (da_cons (de_v 7) da_nil)))⟩
  | _ + 2, hj, _ => exact absurd hj (by intro z; cases z)
theorem ok_law_dice (T : Txt w K mg base h) : FnOk P w K mg base (L2.CX P w) 1 (He.fAd K ("_law_dice", none)) (fd_law_dice T) ["cell"] (SpD K (MM K φ) 1 m_law_dice) := by
  refine fn_okT (k := 0) (N := ["cell"]) (body := B_law_dice) (F_law_dice T) sc_law_dice fun cdv hcd A outer s H E hr => ?_
  have nd := sc_law_dice.nd
  have hu := hr.units
  have tk : Takes (cxOf (L2.CX P w) P w K mg base ["cell"] "_law_dice" (defScope s_law_dice) (He.fAd K ("_law_dice", none)) cdv A outer s H E) (WofE E) := takes_of rfl rfl rfl rfl
  have hW : Flat (WofE E) := fun _ _ _ _ _ z => z
  have hP : PassesOwn (model P w) (A.deeper (envOfC "_law_dice" (defScope s_law_dice) s.heap.objs.size (He.fAd K ("_law_dice", none)) cdv)) (envOfC "_law_dice" (defScope s_law_dice) s.heap.objs.size (He.fAd K ("_law_dice", none)) cdv) (cxOf (L2.CX P w) P w K mg base ["cell"] "_law_dice" (defScope s_law_dice) (He.fAd K ("_law_dice", none)) cdv A outer s H E).xe := PassesOwn.leaving
  exact (dss_cons (ds_if (dt_ch od_lt od_lt (DE.b (de_bin od_sub (DE.b de_int) (DE.b de_int))) (db_v 0) (DE.b de_int)) (dss_one (ds_ret (DF.han (df_lst (da_cons (de_blt (cd_abs) (T.f_abs) (by decide +kernel) (dab_cons (db_v 0) dab_nil)) (da_cons de_int (da_cons de_int da_nil))))))) dss_nil)
  (dss_one (ds_ret (DF.han (df_lst (da_cons (de_v 0) (da_cons (de_bin od_add (DE.b de_int) (DE.b (de_bin od_mod (DE.b (de_bty (cd_int) (T.f_int) (by decide +kernel) (dab_cons (db_v 0) dab_nil))) (DE.b de_int)))) (da_cons (de_bty (cd_int) (T.f_int) (by decide +kernel) (dab_cons (DE.b (de_cmp od_ge (db_v 0) (DE.b (de_bin od_pow (DE.b de_int) (DE.b de_int))) (nomark _))) dab_nil)) da_nil))))))))
theorem ok_law_rounds (T : Txt w K mg base h) : FnOk P w K mg base (L2.CX P w) 2 (He.fAd K ("_law_rounds", none)) (fd_law_rounds T) ["script", "most"] (SpD K (MM K φ) 2 m_law_rounds) := by
  refine fn_okT (k := 1) (N := ["script", "most", "cells", "cell"]) (body := B_law_rounds) (F_law_rounds T) sc_law_rounds fun cdv hcd A outer s H E hr => ?_
  have nd := sc_law_rounds.nd
  have hu := hr.units
  have tk : Takes (cxOf (L2.CX P w) P w K mg base ["script", "most", "cells", "cell"] "_law_rounds" (defScope s_law_rounds) (He.fAd K ("_law_rounds", none)) cdv A outer s H E) (WofE E) := takes_of rfl rfl rfl rfl
  have hW : Flat (WofE E) := fun _ _ _ _ _ z => z
  have hP : PassesOwn (model P w) (A.deeper (envOfC "_law_rounds" (defScope s_law_rounds) s.heap.objs.size (He.fAd K ("_law_rounds", none)) cdv)) (envOfC "_law_rounds" (defScope s_law_rounds) s.heap.objs.size (He.fAd K ("_law_rounds", none)) cdv) (cxOf (L2.CX P w) P w K mg base ["script", "most", "cells", "cell"] "_law_rounds" (defScope s_law_rounds) (He.fAd K ("_law_rounds", none)) cdv A outer s H E).xe := PassesOwn.leaving
  exact (dss_cons (ds_set 2 nd (de_slice (db_v 0) do_none (do_some (de_v 1))))
  (dss_cons (ds_if (dt_cmp (od_eq hu) (db_v 2) (DE.b (de_lst da_nil)) (nomark _)) (dss_one (ds_set 2 nd (de_lst (da_cons de_int da_nil)))) dss_nil)
  (dss_one (ds_ret (DF.de (df_lc (own := [("cell", 3)]) rfl nd (DI.s (di_list (de_v 2))) (by first | exact (show blkC ["script", "most", "cells", "cell"] (defScope s_law_rounds) _ [("cell", 3)] = true by decide +kernel) | rfl) (fun s2 H2 C2 cl2 fp2 => (dg_name 3 nd)) (fun s2 H2 C2 cl2 fp2 => blkT hr fun hu tk hW => dts_nil) (fun s2 H2 C2 cl2 fp2 => blkE hr fun hu tk hW => (de_call (ok_law_dice T) (b_law_dice T) (k_law_dice T) (g_law_dice T) (hr.mono (by decide)) tk (da_cons (de_v 3) da_nil)))))))))
theorem ok_law (T : Txt w K mg base h) : FnOk P w K mg base (L2.CX P w) 15 (He.fAd K ("law", none)) (fd_law T) ["script"] (SpD K (MM K φ) 1 m_law) := by
  refine fn_okT (k := 14) (N := ["script", "dice", "desk", "step", "rows", "waits", "past", "place", "now", "gap", "fine", "reply", "deed", "due"]) (body := B_law) (F_law T) sc_law fun cdv hcd A outer s H E hr => ?_
  have nd := sc_law.nd
  have hu := hr.units
  have tk : Takes (cxOf (L2.CX P w) P w K mg base ["script", "dice", "desk", "step", "rows", "waits", "past", "place", "now", "gap", "fine", "reply", "deed", "due"] "law" (defScope s_law) (He.fAd K ("law", none)) cdv A outer s H E) (WofE E) := takes_of rfl rfl rfl rfl
  have hW : Flat (WofE E) := fun _ _ _ _ _ z => z
  have hP : PassesOwn (model P w) (A.deeper (envOfC "law" (defScope s_law) s.heap.objs.size (He.fAd K ("law", none)) cdv)) (envOfC "law" (defScope s_law) s.heap.objs.size (He.fAd K ("law", none)) cdv) (cxOf (L2.CX P w) P w K mg base ["script", "dice", "desk", "step", "rows", "waits", "past", "place", "now", "gap", "fine", "reply", "deed", "due"] "law" (defScope s_law) (He.fAd K ("law", none)) cdv A outer s H E).xe := PassesOwn.leaving
  exact (dss_cons (ds_wip [false, false, false, false, false, false, false, false, false, false, false, false, false, false] (ds_forW [false, false, false, false, false, false, false, false, false, false, false, false, false, false] hP rfl (di_list (de_call (ok_law_rounds T) (b_law_rounds T) (k_law_rounds T) (g_law_rounds T) (hr.mono (by decide)) tk (da_cons (de_v 0) (da_cons de_int da_nil)))) (dg_name 1 nd) (dss_wip [false, false, false, false, false, false, false, false, false, false, false, false, false, false] (dss_cons (ds_set 2 nd (de_makeH0 (ok_Desk_init T) (b_Desk_init T) (mk_Desk T) (g_Desk T) (hr.mono (by decide)) tk hW))
  (dss_cons (ds_par2 6 7 rfl nd (da_cons (de_lst (da_cons (de_fld (c := 2) (i := 0) T.cls2 (db_v 2)) da_nil)) (da_cons de_int da_nil)))
  (dss_cons (ds_wip [false, true, true, false, false, false, true, true, false, false, false, false, false, false] (ds_forW [false, true, true, false, false, false, true, true, false, false, false, false, false, false] hP rfl (di_range1 T.f_range (da_cons (de_call (ok_law_roll T) (b_law_roll T) (k_law_roll T) (g_law_roll T) (hr.mono (by decide)) tk (da_cons (de_v 1) (da_cons de_int da_nil))) da_nil)) (dg_name 3 nd) (dss_wip [false, true, true, false, false, false, true, true, false, false, false, false, false, false] (dss_cons (ds_set 8 nd (de_ix (db_v 6) (db_v 7)))
  (dss_cons (ds_if (dt_cmp (od_eq hu) (DE.b (de_call (ok_law_roll T) (b_law_roll T) (k_law_roll T) (g_law_roll T) (hr.mono (by decide)) tk (da_cons (de_v 1) (da_cons de_int da_nil)))) (DE.b de_int) (nomark _)) (dss_cons (ds_set 9 nd (de_ix (DE.b (de_lst (da_cons (de_bin od_sub (DE.b de_int) (DE.b de_int)) (da_cons de_int da_nil)))) (DE.b (de_call (ok_law_roll T) (b_law_roll T) (k_law_roll T) (g_law_roll T) (hr.mono (by decide)) tk (da_cons (de_v 1) (da_cons de_int da_nil))))))
  (dss_cons (ds_set 10 nd (de_ch od_le od_lt (DE.b de_int) (DE.b (de_bin od_add (db_v 7) (db_v 9))) (DE.b (de_blt (cd_len) (T.f_len) (by decide +kernel) (dab_cons (db_v 6) dab_nil)))))
  (dss_cons (ds_if (dt_cmp od_lt (db_v 9) (DE.b de_int) (nomark _)) (dss_one (ds_set 11 nd (de_told (k := 12) (F_law_desk T) (b_law_desk T) sc_law_desk rfl (hd_told T) (hx_told T) rfl (.inl rfl) (T.tb ("law", none) (by simp [tf])) hcd (tabs_law T) (hr.mono (by decide)) (g_law_desk T) (fun A2 outer2 s2 H2 E2 f2 c2 hr => de_lam hr fun hu tk hW => (de_methT0 (ok_Desk_undo T) (b_Desk_undo T) T.cls2 (me_Desk_undo T) (hr.mono (by decide)) tk (de_v 2))) (L := LamX.lamS_by (show LamX.lamSB (defScope s_law) _ = true by decide +kernel))))) (dss_one (ds_set 11 nd (de_told (k := 12) (F_law_desk T) (b_law_desk T) sc_law_desk rfl (hd_told T) (hx_told T) rfl (.inl rfl) (T.tb ("law", none) (by simp [tf])) hcd (tabs_law T) (hr.mono (by decide)) (g_law_desk T) (fun A2 outer2 s2 H2 E2 f2 c2 hr => de_lam hr fun hu tk hW => (de_methT0 (ok_Desk_redo T) (b_Desk_redo T) T.cls2 (me_Desk_redo T) (hr.mono (by decide)) tk (de_v 2))) (L := LamX.lamS_by (show LamX.lamSB (defScope s_law) _ = true by decide +kernel))))))
  (dss_one (ds_set 7 nd (de_bin od_add (db_v 7) (DE.b (de_bin od_mul (db_v 9) (DE.b (de_bty (cd_int) (T.f_int) (by decide +kernel) (dab_cons (db_v 10) dab_nil))))))))))) (dss_wcK (MK := MM K) (fun _ _ => rfl) (CK P w K mg base) (dss_cons (ds_asg (de_call (ok_law_deed T) (b_law_deed T) (k_law_deed T) (g_law_deed T) (hr.mono (by decide)) tk (da_cons (de_v 2) (da_cons (de_v 1) (da_cons (de_v 8) da_nil)))) (dg_tup rfl (dgs_cons (dg_name 12 nd) (dgs_cons (dg_name 13 nd) dgs_nil))))
  (dss_cons (ds_set 11 nd (de_call (ok_law_desk T) (b_law_desk T) (k_law_desk T) (g_law_desk T) (hr.mono (by decide)) tk (da_cons (de_v 12) da_nil)))
  (dss_cons (ds_set 10 nd (de_cmp (od_ne hu) (db_v 13) (db_v 8) (nomark _)))
  (dss_one (ds_if (dt_val (de_v 10)) (dss_one (ds_par2 6 7 rfl nd (da_cons (de_bin od_add (DE.b (de_slice (db_v 6) do_none (do_some (de_bin od_add (db_v 7) (DE.b de_int))))) (DE.b (de_lst (da_cons (de_v 13) da_nil)))) (da_cons (de_bin od_add (db_v 7) (DE.b de_int)) da_nil)))) dss_nil)))))))
  (dss_one (ds_if (DW.t (dw_or (dt_cmp (od_ne hu) (db_v 11) (db_if (dt_val (de_v 10)) (DE.b de_non) (DE.b de_str)) (nomark _)) (dw_or1 (dt_cmp (od_ne hu) (DE.b (de_fld (c := 2) (i := 0) T.cls2 (db_v 2))) (DE.b (de_ix (db_v 6) (db_v 7))) (nomark _))))) (dss_one (ds_ret de_bl)) dss_nil)))))))
  (dss_cons (ds_set 4 nd (de_if (dt_cmp (od_ne hu) (DE.b (de_ix (db_v 6) (db_v 7))) (DE.b de_str) (nomark _)) (de_mth PySem.F.plainAttrs_str PySem.F.slot_str_split PySem.F.type_str_split md_split (DE.b (de_ix (db_v 6) (db_v 7))) (dab_cons (DE.b de_str) dab_nil)) (de_lst da_nil)))
  (dss_cons (ds_set 5 nd (de_bin od_sub (DE.b (de_call (ok_law_sum T) (b_law_sum T) (k_law_sum T) (g_law_sum T) (hr.mono (by decide)) tk (da_cons (de_v 4) (da_cons de_str da_nil)))) (DE.b (de_call (ok_law_sum T) (b_law_sum T) (k_law_sum T) (g_law_sum T) (hr.mono (by decide)) tk (da_cons (de_v 4) (da_cons de_str da_nil))))))
  (dss_one (ds_if (dt_cmp (od_ne hu) (DE.b (de_methT0 (ok_Desk_judged T) (b_Desk_judged T) T.cls2 (me_Desk_judged T) (hr.mono (by decide)) tk (de_v 2))) (DE.b (de_tup (da_cons (de_blt (cd_len) (T.f_len) (by decide +kernel) (dab_cons (db_v 4) dab_nil)) (da_cons (de_v 5) (da_cons (de_bin od_sub (DE.b (de_call (ok_law_sum T) (b_law_sum T) (k_law_sum T) (g_law_sum T) (hr.mono (by decide)) tk (da_cons (de_v 4) (da_cons de_str da_nil)))) (DE.b (de_call (ok_law_sum T) (b_law_sum T) (k_law_sum T) (g_law_sum T) (hr.mono (by decide)) tk (da_cons (de_v 4) (da_cons de_str da_nil))))) da_nil))))) (nomark _)) (dss_one (ds_ret de_bl)) dss_nil))))))))))
  (dss_one (ds_ret de_bl)))
end
end L19
set_option Elab.async false
set_option linter.all false
set_option maxRecDepth 100000
set_option maxHeartbeats 4000000
namespace DL
open PySem PySem.Spec PyProof PyProof.Rows L2
open He (obsT SaysX tabsB cT frT asD emptyTab emptyTab_eq frT_none frT_in ba)
def asY (g : Addr → Option Obj) (n : Nat) : List Addr := asD g n ++ [cStatics]
def obsY (n : Nat) (fa : List He.Fa) (fn : List He.DefD) (ts : List He.Tab) (tf : List He.Defn) (ex : PySem.W.Frag → Bool) (g : Addr → Option Obj) : He.AlX := (obsT fa fn ts (frT g (asY g n)), ex (frT g (asY g n)) && tabsB g tf (frT g (asY g n)))
theorem saysY_of {as : List Addr} {fa : List He.Fa} {fn : List He.DefD} {ts : List He.Tab} {tf : List He.Defn} {ex : PySem.W.Frag → Bool} {w : World} {h : Heap} (e : (obsT fa fn ts (frT h.get? as), ex (frT h.get? as) && tabsB h.get? tf (frT h.get? as)) = He.valX fn ts w) : SaysX fa fn ts tf ex w h (frT h.get? as) := by
  have e1 : obsT fa fn ts (frT h.get? as) = He.valT fn ts w := congrArg (fun z : He.AlX => z.1) e
  have e2 : (ex (frT h.get? as) && tabsB h.get? tf (frT h.get? as)) = true := congrArg (fun z : He.AlX => z.2) e
  obtain ⟨h1, h2⟩ := ba e2
  have key : ∀ p ∈ tf, PySem.W.codeHdIn (frT h.get? as) (cT (frT h.get? as) p).1 (cT (frT h.get? as) p).2 = true ∧ ∃ o, h.get? (cT (frT h.get? as) p).2 = some o ∧ emptyTab o = true := fun p hp => by
    obtain ⟨h3, h4⟩ := ba (List.all_eq_true.mp h2 p hp)
    refine ⟨h3, ?_⟩
    cases q : h.get? (cT (frT h.get? as) p).2 with
    | none =>
      rw [q] at h4
      cases h4
    | some o =>
      rw [q] at h4
      exact ⟨o, rfl, h4⟩
  exact ⟨e1, h1, fun p hp => (key p hp).1, fun p hp => by
    obtain ⟨_, o, q, z⟩ := key p hp
    exact frT_none q z, fun p hp => by
    obtain ⟨_, o, q, z⟩ := key p hp
    rw [q, emptyTab_eq z]⟩
def hookY (n : Nat) (fa : List He.Fa) (fn : List He.DefD) (ts : List He.Tab) (tf : List He.Defn) (ex : PySem.W.Frag → Bool) : PySem.W.Hook where
  α := He.AlX
  obs := fun s => obsY n fa fn ts tf ex s.heap.get?
  val := fun w => He.valX fn ts w
  says := fun w h => ∃ K : PySem.W.Frag, K.In h ∧ SaysX fa fn ts tf ex w h K
  of := fun _ _ e => ⟨_, frT_in, saysY_of e⟩
  keeps := fun _ _ _ ⟨K, hK, c⟩ k => ⟨K, PySem.W.Frag.In.keeps hK k, ⟨c.t, c.more, c.hd, c.out, fun p hp => k _ _ (c.empty p hp)⟩⟩
theorem obsY_eq {n : Nat} {fa : List He.Fa} {fn : List He.DefD} {ts : List He.Tab} {tf : List He.Defn} {ex : PySem.W.Frag → Bool} {g : Addr → Option Obj} {s : Shared} (h : ∀ a, g a = s.heap.get? a) : obsY n fa fn ts tf ex g = (hookY n fa fn ts tf ex).obs s := by
  have e : g = s.heap.get? := funext h
  rw [e] <;> rfl
end DL
set_option Elab.async false
set_option linter.all false
set_option maxRecDepth 100000
set_option maxHeartbeats 0
namespace L19
open PySem PySem.Spec PyProof.Rows L2 DL
abbrev R : PySem.W.OpenRow := PySem.W.OpenLaw.row PySem.Challenge.rw_millhall_k19_a_desk
abbrev hk : PySem.W.Hook := DL.hookY 5 fa fn [] tf ex
def ob (s : PySem.W.SharedT) : He.AlX := DL.obsY 5 fa fn [] tf ex (HandSHeadRun.getT s)
theorem ob_eq (s : PySem.W.SharedT) : ob s = hk.obs s.abs := DL.obsY_eq (HandSHeadRun.getT_eq s)
def names0 : List PySem.Str := ["_wall", "MillFault", "BadText", "BadDeed", "Line", "read_row", "Pages", "Desk", "_law_dice", "_law_roll", "_law_rounds", "_law_desk", "_law_sum", "_law_deed", "DEEDS"]
def names : List PySem.Str := names0
theorem run (w : World) : HandSHeadRun.RunEq R (PySem.W.view R.prog [19]) hk ob 200000 names w := by
  intro os
  kernel_rfl
end L19
open PySem PySem.W PySem.Calls PyProof.Rows in
theorem L19.holds_of (hlaw : ∀ ns : List Int, ns.length ≤ 63 → ∃ s, L19.m_law [.scr ns] [] = .ok (.bl true) s) : PySem.Challenge.rw_millhall_k19_a_desk.Holds := by
  w_on; o_law
  refine HandSHeadRun.head_any (r := OpenLaw.row PySem.Challenge.rw_millhall_k19_a_desk) (q := view (OpenLaw.row PySem.Challenge.rw_millhall_k19_a_desk).prog [19]) (H := L19.hk) (ob := L19.ob) (M := 200000) (loose := L19.names) (d := HandSHeadRun.topDef (OpenLaw.row PySem.Challenge.rw_millhall_k19_a_desk).prog 19) (kwd := []) L19.ob_eq
    (by kernel_rfl) (fun s => by kernel_rfl) L19.run (by kernel_rfl) (by kernel_rfl) (by kernel_rfl) (by rfl) (by first | assumption | decide +kernel) (by decide +kernel) ⟨rfl, rfl, rfl, rfl, rfl, by decide +kernel⟩ ?hw ?hc
  case hw => w_witness2
  case hc =>
    refine LamX.walk_ofTsE (l := PySem.Challenge.rw_millhall_k19_a_desk) (n := 63) (k := 15) (x := "script") (CX := fun w => L2.CX PySem.Challenge.rw_millhall_k19_a_desk.prog w) rfl (by decide) (by kernel_rfl) ⟨rfl, by decide, by decide⟩ ?F (fun _ _ _ _ _ z => DL.cx_no z)
    intro w mg fa h Y G hmg0
    obtain ⟨K, KX, c⟩ := Y
    have T0 : ∀ base : Heap, (∀ p ∈ L19.tf, LamX.TabB base mg (He.cT K p).1 (He.cT K p).2) → L19.Txt w K mg base h := fun base TB => ⟨KX, G, c, TB⟩
    have e0 := He.glo_ok KX G (c.t.d.fact (L19.fa.findIdx fun f => match f with | .glo x => x == "law" | _ => false) (f := .glo "law") rfl)
    have hmg : mg ("law" : PySem.Str) = some (.ref fa) := by
      have e : (HandSHeadRun.topDef (OpenLaw.row PySem.Challenge.rw_millhall_k19_a_desk).prog 19).name = ("law" : PySem.Str) := by kernel_rfl
      rw [← e]
      exact hmg0
    have ea := hmg.symm.trans e0
    cases ea
    have F : L2.Fun K "law" "law" L19.s_law (He.fAd K ("law", none)) _ := DL.funOfD (Classical.choose_spec (c.t.d.def_ 25 (d := L19.d_law) rfl))
    refine ⟨K, KX, _, L19.tf.map (He.cT K), DL.SpD K (L19.MM K DL.Clo.nil) 1 L19.m_law, fun p hp => ?_, fun p hp => ?_, fun p hp => ?_, DL.binds_one F (fun _ _ _ _ _ _ _ => rfl), fun H a ns hl _ hT hS => DL.law_sp _ hlaw (fun p hp => ?_) rfl H a ns hl hT hS, fun base hK hG TB => L19.ok_law (T0 base fun p hp => TB _ (List.mem_map.mpr ⟨p, hp, rfl⟩))⟩
    · obtain ⟨q, hq, rfl⟩ := List.mem_map.mp hp
      exact c.empty q hq
    · obtain ⟨q, hq, rfl⟩ := List.mem_map.mp hp
      exact c.out q hq
    · obtain ⟨q, hq, rfl⟩ := List.mem_map.mp hp
      exact PySem.W.codeHd_of_K KX (c.hd q hq)
    · simp only [L19.MM, List.mem_cons, List.not_mem_nil, or_false] at hp
      rcases hp with rfl | rfl | rfl | rfl | rfl | rfl
      · exact ⟨_, List.mem_map.mpr ⟨("Pages", some "sum_of"), by simp [L19.tf], rfl⟩, rfl⟩
      · exact ⟨_, List.mem_map.mpr ⟨("Line", some "__init__"), by simp [L19.tf], rfl⟩, rfl⟩
      · exact ⟨_, List.mem_map.mpr ⟨("read_row", none), by simp [L19.tf], rfl⟩, rfl⟩
      · exact ⟨_, List.mem_map.mpr ⟨("Desk", some "judged"), by simp [L19.tf], rfl⟩, rfl⟩
      · exact ⟨_, List.mem_map.mpr ⟨("_law_deed", none), by simp [L19.tf], rfl⟩, rfl⟩
      · exact ⟨_, List.mem_map.mpr ⟨("law", none), by simp [L19.tf], rfl⟩, rfl⟩
set_option Elab.async false
set_option linter.all false
set_option maxRecDepth 100000
set_option maxHeartbeats 4000000
namespace L19
open PySem L2 DL DR Kk19
abbrev eF (past place rows waits : Sl) : DL.Env := [.no, .v (.han 0), .v (.han 1), .no, rows, waits, past, place, .no, .no, .no, .no, .no, .no]
theorem s3_ok {x : Dc} {n : Nat} {t : DS} {A B : List Rws} {c : Rws} (Z : Zp n (x.d :: t) A c B) (hn : n ≤ 8) : S_law_0x_3 (eF (.v (pstD (A ++ c :: B))) (.v (.int A.length)) .no .no) (x.d :: t) = .nx (eF (.v (pstD (A ++ c :: B))) (.v (.int A.length)) (.v (txD c)) .no) (x.d :: t) := by
  obtain ⟨Hc, gc, lc⟩ := Z.cur
  obtain ⟨n1, n2⟩ := rows_of (OkA.all Hc) (by omega)
  have at0 := pst_at A c B
  by_cases h : c = []
  · subst h
    unfold S_law_0x_3
    simp_arith [isStr_s, opAdd_ss, lenO_s, strO_s, n1, at0]
    rfl
  · have n2 := n2 h
    have n1 : opNe (.str (T c)) (.str "") = some (.bl true) := by
      rw [n1]
      cases c with
      | nil => exact absurd rfl h
      | cons _ _ => rfl
    unfold S_law_0x_3
    simp_arith [isStr_s, opAdd_ss, lenO_s, strO_s, n1, n2, at0]
theorem s4_ok {n : Nat} {c : Rws} (Hc : ∀ r ∈ c, OkA r) (lc : c.length ≤ 3 + n) (hn : n ≤ 8) (p q : Sl) (s : DS) : S_law_0x_4 (eF p q (.v (txD c)) .no) s = .nx (eF p q (.v (txD c)) (.v (.int (wt c)))) s := by
  have g1 := fun s => lsum_ok s Hc (by omega) bring_ok
  have g2 := fun s => lsum_ok s Hc (by omega) grind_ok
  unfold S_law_0x_4
  simp_arith [isStr_s, opAdd_ss, lenO_s, strO_s, g1, g2]
theorem s5_ok {x : Dc} {n : Nat} {t : DS} {A B : List Rws} {c : Rws} (Z : Zp n (x.d :: t) A c B) (hn : n ≤ 8) (p q : Sl) : ∃ s', S_law_0x_5 (eF p q (.v (txD c)) (.v (.int (wt c)))) (x.d :: t) = .nx (eF p q (.v (txD c)) (.v (.int (wt c)))) s' := by
  obtain ⟨Hc, gc, lc⟩ := Z.cur
  obtain ⟨a1, b1, h1, _⟩ := Z.dk.ex
  have d := deref_get h1
  obtain ⟨s', e, _⟩ := judged_ok Z.dk Hc (by omega) gc
  have g2 := fun s => lsum_ok s Hc (by omega) grind_ok
  have g3 := fun s => lsum_ok s Hc (by omega) fetch_ok
  have c1 : c.length ≤ 16777216 := by omega
  have en : opNe (.tup [.int (c.length : Nat), .int (wt c), .int (rd c)]) (.tup [.int (c.length : Nat), .int (wt c), .int (rd c)]) = some (.bl false) := opNe_self (by rfl)
  refine ⟨s', ?_⟩
  unfold S_law_0x_5
  simp_arith [isStr_s, opAdd_ss, lenO_s, strO_s, d, e, g2, g3, c1, en]
theorem law_body (x : DR.Dc) : ∃ s', turnF (gN 1) L_law_0 (.han 0) E_law_0 [x.d] = .nx E_law_0 s' := by
  have a0 := s0_ok x
  have a1 := s1_ok [x.d, .obj 2 [.str (T R0), .han 2, .han 3], .lst [], .lst []] [.han 2, .han 3] (T R0) rfl
  obtain ⟨x', t', A', B', c', a2, Z'⟩ := s2_ok x (Z0 x)
  have a3 := s3_ok Z' (Nat.le_refl _)
  have a4 := s4_ok (n := 8) Z'.cur.1 Z'.cur.2.2 (Nat.le_refl _) (.v (pstD (A' ++ c' :: B'))) (.v (.int A'.length)) (x'.d :: t')
  obtain ⟨s', a5⟩ := s5_ok Z' (Nat.le_refl _) (.v (pstD (A' ++ c' :: B'))) (.v (.int A'.length))
  refine ⟨s', ?_⟩
  have b0 : turnF (gN 1) L_law_0 (.han 0) E_law_0 [x.d] = (seqB S_law_0x_0 (seqB S_law_0x_1 (seqB S_law_0x_2 (seqB S_law_0x_3 (seqB S_law_0x_4 S_law_0x_5)))) [.no, .v (.han 0), .no, .no, .no, .no, .no, .no, .no, .no, .no, .no, .no, .no] [x.d]).wip [false, false, false, false, false, false, false, false, false, false, false, false, false, false] := rfl
  rw [b0, seqB_eq, a0, then_nx, seqB_eq, a1, then_nx, seqB_eq]
  have a2' : S_law_0x_2 (E_law_0x_2 (.v (.han 0)) (.v (.han 1)) (.v (.lst [.str (T R0)])) (.v (.int 0))) [x.d, .obj 2 [.str (T R0), .han 2, .han 3], .lst [], .lst []] = .nx (eF (.v (pstD (A' ++ c' :: B'))) (.v (.int A'.length)) .no .no) (x'.d :: t') := a2
  rw [a2', then_nx, seqB_eq, a3, then_nx, seqB_eq, a4, then_nx, a5]
  rfl
theorem law_holds : ∀ ns : List Int, ns.length ≤ 63 → ∃ s, m_law [.scr ns] [] = .ok (.bl true) s := law_of law_body
end L19
end
theorem PySem.Challenge.cw_millhall_k19_a_desk_holds : PySem.Challenge.rw_millhall_k19_a_desk.Holds :=
  L19.holds_of L19.law_holds
