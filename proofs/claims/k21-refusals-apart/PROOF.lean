import PyProof.Rows.All
import Wide.All
import OpenK.AllK
import Wide.FinOn
import HandS.Nested
import HandS.Lambda
import HandS.Base
import HandS.Call
import HandS.List
import HandS.Comp
import HandS.Dict
import HandS.Iter
import HandS.Text
import HandS.Exc
import HandS.ExcOwn
import HandS.TryOnly
import HandS.TryMany
import HandS.EndTab
import HandS.Words
import HandS.WordsList
import HandS.WordsDict
import HandS.WordsExc
import HandS.Conv
import HandS.Zip
import HandS.TupAny
import HandS.Deep
import HandS.Wide
import KE.DataMinMax
import HandS.Style
import HandS.Flow
import HandS.Head0
import HandS.Head1
import HandS.Head2
import HandS.HeadEnd
import HandS.HeadHook1
import HandS.HeadHook2
import HandS.HeadHook3
import HandS.HeadHook4
import HandS.HeadWalk
import HandS.NestedK
import HandS.GenOver
import PyProof.ConsumeS
import PyProof.SeqWrite
import PyProof.MaxThree
import HandS.More
import HandS.Small
import KE.SortData
import HandS.ListItems
import KE.KDictZip
import KE.KDictSum
import KE.SortKeyHeap
import HandS.DictComp
import HandS.Strs
import PyProof.SeqIndex
import KE.GoesMore
import PyProof.EnumMake
import HandS.DeepEq
import PyProof.P3In
import KE.DataMinKey
import KE.KMinKey
import HandS.SortKw
import KE.DataCmp
import PyProof.RangeFor
import HandS.Remove
import KE.KEqNest
import PyProof.NeKinds
import HandS.DictTup
import KE.KItemsList
import HandS.Rev
import KE.KDictPairs
import KE.KDictDisplayH
import KE.KExcSuper
import HandS.ExcInit
import HandS.ExcField
import HandS.ExcInitHot
import HandS.SuiteRaise
import HandS.RaiseMore
import HandS.ExcIs
import PySem.Challenge.RW_millhall_k21_refusals_apart
set_option Elab.async false
set_option linter.all false
set_option maxRecDepth 100000
set_option maxHeartbeats 2000000
namespace DL
open PySem PySem.Spec PyProof.Rows L2 NdefX LamX
/-- a code object that has a table of its own -/
def CodeK (c : Addr) (q : Str) (P : Addr) : HO := .ext fun h => (∃ (oc : Obj) (vs : Array Value) (t : Tok), h.get? c = some oc ∧ oc.data = .fields vs ∧ vs[1]? = some (.str q t)) ∧ PySem.W.CodeHd h c P
theorem codeK_ne {c P : Addr} {q : Str} (ps : Array Value) : CodeK c q P ≠ .tbl ps := fun z => by
  unfold CodeK at z
  cases z
/-- a code object by its name, with or without a table that is known -/
def CodeA (H : Hp) (c : Addr) (q : Str) : Prop := H c = some (CodeO c q) ∨ ∃ P, H c = some (CodeK c q P)
theorem CodeA.ext {H H' : Hp} {c : Addr} {q : Str} (e : CodeA H c q) (k : ∀ o, H c = some o → (∀ ps, o ≠ .tbl ps) → H' c = some o) : CodeA H' c q := by
  rcases e with e | ⟨P, e⟩
  · exact .inl (k _ e codeO_ne)
  · exact .inr ⟨P, k _ e codeK_ne⟩
theorem CodeA.some {H : Hp} {c : Addr} {q : Str} (e : CodeA H c q) : ∃ o, H c = some o ∧ (∀ ps, o ≠ .tbl ps) ∧ (∃ f, o = .ext f) := by
  rcases e with e | ⟨P, e⟩
  · exact ⟨_, e, codeO_ne, _, rfl⟩
  · exact ⟨_, e, codeK_ne, _, rfl⟩
/-- tables; kq: the code object of this name has a table of its own, whose names are kn; own: the running code object that has one -/
structure Tbs where
  l : List NTab
  kq : Option Str := none
  kn : Nat → Nat → Str := fun _ _ => ""
  own : Option (Addr × Addr × Str) := none
/-- what a table tells of a place that bears the name q -/
def Ent (T : Tbs) (H : Hp) (q : Str) (cv : Value) : Prop := ∃ c, cv = .ref c ∧ ((T.kq ≠ some q ∧ H c = some (CodeO c q)) ∨ (T.kq = some q ∧ ∃ P, H c = some (CodeK c q P) ∧ (∀ p ∈ T.l, p.1 = P → p.2 = T.kn) ∧ TabN H P T.kn))
def TabsX (T : Tbs) (H : Hp) : Prop := (∀ p ∈ T.l, ∃ ps : Array Value, H p.1 = some (.tbl ps) ∧ TriplesOk ps.toList ∧ ∀ (pos : Pos) (cv : Value), codeAmong pos ps.toList = some cv → Ent T H (p.2 pos.line pos.col) cv) ∧ ∀ c P q, T.own = some (c, P, q) → H c = some (CodeK c q P)
/-- what stands at pos in the table at P bears the name q -/
def HasT (T : Tbs) (P : Addr) (q : Str) (pos : Pos) : Prop := ∃ nm, (P, nm) ∈ T.l ∧ nm pos.line pos.col = q ∧ (∀ p ∈ T.l, p.1 = P → p.2 = nm) ∧ T.kq ≠ some q
theorem Ent.ext {T : Tbs} {H H' : Hp} {q : Str} {cv : Value} (e : Ent T H q cv) (k : ∀ b o, H b = some o → H' b = some o) : Ent T H' q cv := by
  obtain ⟨c, h1, h2⟩ := e
  refine ⟨c, h1, ?_⟩
  rcases h2 with ⟨h2, h3⟩ | ⟨h2, P, h3, h4, h5⟩
  · exact .inl ⟨h2, k _ _ h3⟩
  · exact .inr ⟨h2, P, k _ _ h3, h4, h5.ext k⟩
theorem TabsX.ext {T : Tbs} {H H' : Hp} (t : TabsX T H) (e : ∀ b o, H b = some o → H' b = some o) : TabsX T H' := by
  refine ⟨fun p hp => ?_, fun c P q h => e _ _ (t.2 c P q h)⟩
  obtain ⟨ps, h1, h2, h3⟩ := t.1 p hp
  exact ⟨ps, e _ _ h1, h2, fun pos cv hc => (h3 pos cv hc).ext e⟩
section
variable {T : Tbs} {H : Hp} {P c' : Addr} {q : Str} {pos : Pos} {ps : Array Value}
/-- one more code object at P; o: what it is -/
theorem tab_grow {o : HO} {H' : Hp} (hT : TabsX T H) (hP : H P = some (.tbl ps)) (nC : H c' = none) (h : ∃ nm, (P, nm) ∈ T.l ∧ nm pos.line pos.col = q ∧ ∀ p ∈ T.l, p.1 = P → p.2 = nm)
    (hx : ∀ b, b ≠ P → ∀ u, H b = some u → H' b = some u) (hP2 : H' P = some (.tbl (ps ++ #[rawInt pos.line, rawInt pos.col, .ref c']))) (ho : H' c' = some o) (hn : ∀ ps, o ≠ .tbl ps)
    (he : Ent T H' q (.ref c')) (hk : T.kq ≠ some q → o = CodeO c' q) (hkk : T.kq = some q → ∀ nm, (P, nm) ∈ T.l → nm = T.kn → False) : TabsX T H' := by
  obtain ⟨nm, h1, h2, h3⟩ := h
  have keep : ∀ {b u}, H b = some u → (∀ ps, u ≠ .tbl ps) → H' b = some u := fun {b u} e n => hx b (fun z => by
    rw [z, hP] at e
    exact n ps (Option.some.inj e).symm) u e
  have kid : ∀ {P2}, (∀ p ∈ T.l, p.1 = P2 → p.2 = T.kn) → TabN H P2 T.kn → TabN H' P2 T.kn := fun {P2} hk2 t => by
    obtain ⟨qs, g1, g2, g3⟩ := t
    have old : ∀ {cv : Value} {pos : Pos}, (∃ c, cv = .ref c ∧ H c = some (CodeO c (T.kn pos.line pos.col))) → ∃ c, cv = .ref c ∧ H' c = some (CodeO c (T.kn pos.line pos.col)) := fun ⟨c, e1, e2⟩ => ⟨c, e1, keep e2 codeO_ne⟩
    by_cases hb : P2 = P
    · subst hb
      rw [hP] at g1
      cases g1
      have en : nm = T.kn := hk2 _ h1 rfl
      have kq : T.kq ≠ some q := fun z => hkk z nm h1 en
      refine ⟨_, hP2, by simpa using PySem.TriplesOk_snoc _ _ _ _ g2, fun p' cv hcv => ?_⟩
      have hcv : codeAmong p' (ps.toList ++ [rawInt pos.line, rawInt pos.col, .ref c']) = some cv := by simpa using hcv
      rcases among_app2 _ g2 hcv with z | ⟨z1, z2, z3⟩
      · exact old (g3 p' cv z)
      · refine ⟨c', z1, ?_⟩
        rw [ho, hk kq, ← h2, en, ← z2, ← z3]
    · exact ⟨qs, hx _ hb _ g1, g2, fun p' cv hcv => old (g3 p' cv hcv)⟩
  have ent : ∀ {q' : Str} {cv : Value}, Ent T H q' cv → Ent T H' q' cv := fun {q' cv} e => by
    obtain ⟨c, e1, e2⟩ := e
    refine ⟨c, e1, ?_⟩
    rcases e2 with ⟨e2, e3⟩ | ⟨e2, P2, e3, e4, e5⟩
    · exact .inl ⟨e2, keep e3 codeO_ne⟩
    · exact .inr ⟨e2, P2, keep e3 codeK_ne, e4, kid e4 e5⟩
  refine ⟨fun p hp => ?_, fun c P2 q2 h => keep (hT.2 c P2 q2 h) codeK_ne⟩
  obtain ⟨qs, g1, g2, g3⟩ := hT.1 p hp
  by_cases hb : p.1 = P
  · have e2 := h3 p hp hb
    rw [hb] at g1
    rw [hP] at g1
    cases g1
    refine ⟨ps ++ #[rawInt pos.line, rawInt pos.col, .ref c'], by rw [hb]; exact hP2, by simpa using PySem.TriplesOk_snoc _ _ _ _ g2, fun p' cv hcv => ?_⟩
    have hcv : codeAmong p' (ps.toList ++ [rawInt pos.line, rawInt pos.col, .ref c']) = some cv := by simpa using hcv
    rcases among_app2 _ g2 hcv with z | ⟨z1, z2, z3⟩
    · exact ent (g3 p' cv z)
    · rw [z1, e2, ← z2, ← z3, h2]
      exact he
  · exact ⟨qs, hx _ hb _ g1, g2, fun p' cv hcv => ent (g3 p' cv hcv)⟩
/-- one more code object -/
theorem tabN_grow (hT : TabsX T H) (h : HasT T P q pos) (hP : H P = some (.tbl ps)) (nC : H c' = none) :
    ExtN H (upd (upd H P (.tbl (ps ++ #[rawInt pos.line, rawInt pos.col, .ref c']))) c' (CodeO c' q)) ∧ TabsX T (upd (upd H P (.tbl (ps ++ #[rawInt pos.line, rawInt pos.col, .ref c']))) c' (CodeO c' q)) := by
  obtain ⟨nm, h1, h2, h3, h4⟩ := h
  refine ⟨fun b o e n => ?_, tab_grow (pos := pos) (o := CodeO c' q) hT hP nC ⟨nm, h1, h2, h3⟩ (fun b hb u e => ?_) ?_ upd_same codeO_ne ⟨c', rfl, .inl ⟨h4, upd_same⟩⟩ (fun _ => rfl) (fun z => absurd z h4)⟩
  · have b1 : b ≠ c' := ne_of_none e nC
    have b2 : b ≠ P := fun z => by
      rw [z, hP] at e
      exact n ps (Option.some.inj e).symm
    rw [upd_ne b1, upd_ne b2]
    exact e
  · rw [upd_ne (ne_of_none e nC), upd_ne hb]
    exact e
  · rw [upd_ne (ne_of_none hP nC), upd_same]
/-- what is found there -/
theorem tabN_at (hT : TabsX T H) (h : HasT T P q pos) : ∃ ps, H P = some (.tbl ps) ∧ TriplesOk ps.toList ∧ ∀ cv, codeAmong pos ps.toList = some cv → ∃ c, cv = .ref c ∧ H c = some (CodeO c q) := by
  obtain ⟨nm, h1, h2, h3, h4⟩ := h
  obtain ⟨ps, g1, g2, g3⟩ := hT.1 _ h1
  refine ⟨ps, g1, g2, fun cv e => ?_⟩
  obtain ⟨c, e1, e2⟩ := g3 pos cv e
  rw [show (P, nm).2 pos.line pos.col = q from h2] at e2
  rcases e2 with ⟨_, e2⟩ | ⟨e2, _⟩
  · exact ⟨c, e1, e2⟩
  · exact absurd e2 h4
end
end DL
set_option Elab.async false
set_option linter.all false
set_option maxRecDepth 100000
set_option maxHeartbeats 2000000
namespace DL
open PySem PySem.Spec PyProof.Rows L2
inductive D where
  | non | bl (b : Bool) | int (i : Int) | str (s : Str) | tup (l : List D) | lst (l : List D) | dic (l : List (D × D)) | obj (c : Nat) (fs : List D) | han (k : Nat) | scr (l : List Int) | tup0 (l : List D) | dit (l : List (D × D)) | clo (n : Nat) (l : List D)
/-- what a name is to the proof: nothing, a value that stays, an object of its own -/
inductive Sl where
  | no | v (d : D) | o (d : D)
abbrev Env := List Sl
abbrev DS := List D
inductive R (α : Type) where
  | ok (a : α) (s : DS) | ex (c : Nat) (p : List D) (s : DS) | bad
@[reducible] def R.bind {α β : Type} (r : R α) (k : α → DS → R β) : R β := match r with
  | .ok a s => k a s
  | .ex c p s => .ex c p s
  | .bad => .bad
def R.ofO {α : Type} (o : Option α) (s : DS) : R α := match o with
  | some a => .ok a s
  | none => .bad
/-- where the program's classes, errors and tables stand -/
structure Mp where
  cls : Nat → Addr
  flds : Nat → List Str
  exc : Nat → Addr
  row : Str
  tabs : Tbs
  raw : Bool := false
  clo : Hp → Nat → Addr → List V → Prop := fun _ _ _ _ => False
  cloM : ∀ (G G' : Hp) (n : Nat) (a : Addr) (vs : List V), Same G G' → clo G n a vs → clo G' n a vs := by intro _ _ _ _ _ _ h; exact h
def keyD : Key → D
  | .inl i => .int i
  | .inr s => .str s
/-- a tuple, as data know it; raw: no constant of the program's, none that is held still -/
def Tq (K : PySem.W.Frag) (M : Mp) (G : Hp) (a : Addr) (vs : List V) : Prop := if M.raw = true then G a = some (.tup vs) else SqT K G a vs
theorem Tq.sq {K : PySem.W.Frag} {M : Mp} {G : Hp} {a : Addr} {vs : List V} (h : Tq K M G a vs) : SqT K G a vs := by
  unfold Tq at h
  split at h
  · exact .inl (.inl h)
  · exact h
theorem Tq.of {K : PySem.W.Frag} {M : Mp} {G : Hp} {a : Addr} {vs : List V} (h : G a = some (.tup vs)) : Tq K M G a vs := by
  unfold Tq
  split
  · exact h
  · exact .inl (.inl h)
theorem Tq.loose {K : PySem.W.Frag} {M : Mp} {G : Hp} {a : Addr} {vs : List V} (m : M.raw = false) (h : SqT K G a vs) : Tq K M G a vs := by
  unfold Tq
  rw [if_neg (by rw [m]; exact Bool.false_ne_true)]
  exact h
mutual
def Rep (K : PySem.W.Frag) (M : Mp) (G : Hp) (hs : List Addr) : D → V → Prop
  | .non, v => v = .non
  | .bl b, v => v = .bl b
  | .int i, v => v = .int i
  | .str s, v => v = .str s
  | .tup ds, v => ∃ a vs, v = .ref a ∧ Tq K M G a vs ∧ RepL K M G hs ds vs
  | .lst ds, v => ∃ a vs, v = .ref a ∧ G a = some (.lst vs) ∧ RepL K M G hs ds vs
  | .dic kvs, v => ∃ a o l, v = .ref a ∧ G a = some (.frz o (.dK l)) ∧ RepD K M G hs kvs l
  | .obj c ds, v => ∃ a dx fs, v = .ref a ∧ G a = some (.ins (M.cls c) dx fs) ∧ fs.map (·.1) = M.flds c ∧ RepL K M G hs ds (fs.map (·.2))
  | .han k, v => ∃ a, v = .ref a ∧ hs[k]? = some a
  | .scr l, v => ∃ a, v = .ref a ∧ SqL K G a (l.map V.int)
  | .tup0 ds, v => ∃ a o vs, v = .ref a ∧ G a = some (.frz o (.tup vs)) ∧ o.cls = .type "tuple" ∧ o.dict = none ∧ RepL K M G hs ds vs
  | .dit kvs, v => ∃ a o l, v = .ref a ∧ G a = some (.frz o (.dT l)) ∧ RepT K M G hs kvs l
  | .clo n ds, v => ∃ a vs, v = .ref a ∧ M.clo G n a vs ∧ RepL K M G hs ds vs
def RepL (K : PySem.W.Frag) (M : Mp) (G : Hp) (hs : List Addr) : List D → List V → Prop
  | [], vs => vs = []
  | d :: ds, vs => ∃ v vr, vs = v :: vr ∧ Rep K M G hs d v ∧ RepL K M G hs ds vr
def RepD (K : PySem.W.Frag) (M : Mp) (G : Hp) (hs : List Addr) : List (D × D) → List (Key × V) → Prop
  | [], vs => vs = []
  | (k, d) :: ds, vs => ∃ k' v vr, vs = (k', v) :: vr ∧ keyD k' = k ∧ Rep K M G hs d v ∧ RepD K M G hs ds vr
def RepT (K : PySem.W.Frag) (M : Mp) (G : Hp) (hs : List Addr) : List (D × D) → List (List Key × V) → Prop
  | [], vs => vs = []
  | (k, d) :: ds, vs => ∃ k' v vr, vs = (k', v) :: vr ∧ D.tup (k'.map keyD) = k ∧ Rep K M G hs d v ∧ RepT K M G hs ds vr
end
theorem same_seqT {K : PySem.W.Frag} {H H' : Hp} {a : Addr} {xs : List V} (e : Same H H') (h : SqT K H a xs) : SqT K H' a xs := by
  rcases h with (h | ⟨o, h⟩) | h
  · exact .inl (.inl (e _ _ h))
  · exact .inl (.inr ⟨o, e _ _ h⟩)
  · exact .inr h
theorem Tq.mono {K : PySem.W.Frag} {M : Mp} {H H' : Hp} {a : Addr} {xs : List V} (e : Same H H') (h : Tq K M H a xs) : Tq K M H' a xs := by
  unfold Tq at h ⊢
  split
  · rename_i m
    rw [if_pos m] at h
    exact e _ _ h
  · rename_i m
    rw [if_neg m] at h
    exact same_seqT e h
section
variable {K : PySem.W.Frag} {M : Mp} {G G' : Hp} {hs hs' : List Addr}
/-- the first handles are the same -/
def Pre (hs hs' : List Addr) : Prop := ∀ (k : Nat) (a : Addr), hs[k]? = some a → hs'[k]? = some a
theorem Pre.refl (hs : List Addr) : Pre hs hs := fun _ _ h => h
theorem Pre.trans {a b c : List Addr} (h : Pre a b) (g : Pre b c) : Pre a c := fun k x e => g k x (h k x e)
theorem Pre.snoc (hs : List Addr) (a : Addr) : Pre hs (hs ++ [a]) := fun k x e => by
  have hl : k < hs.length := (List.getElem?_eq_some_iff.mp e).1
  rw [List.getElem?_append_left hl]
  exact e
mutual
theorem Rep.mono (e : Same G G') (p : Pre hs hs') : ∀ (d : D) (v : V), Rep K M G hs d v → Rep K M G' hs' d v
  | .non, _, h => by unfold Rep at h ⊢; exact h
  | .bl b, _, h => by unfold Rep at h ⊢; exact h
  | .int i, _, h => by unfold Rep at h ⊢; exact h
  | .str s, _, h => by unfold Rep at h ⊢; exact h
  | .tup ds, _, h => by
    unfold Rep at h ⊢
    obtain ⟨a, vs, h1, h2, h3⟩ := h
    exact ⟨a, vs, h1, h2.mono e, RepL.mono e p ds vs h3⟩
  | .lst ds, _, h => by
    unfold Rep at h ⊢
    obtain ⟨a, vs, h1, h2, h3⟩ := h
    exact ⟨a, vs, h1, e _ _ h2, RepL.mono e p ds vs h3⟩
  | .dic kvs, _, h => by
    unfold Rep at h ⊢
    obtain ⟨a, o, l, h1, h2, h3⟩ := h
    exact ⟨a, o, l, h1, e _ _ h2, RepD.mono e p kvs l h3⟩
  | .obj c ds, _, h => by
    unfold Rep at h ⊢
    obtain ⟨a, dx, fs, h1, h2, h3, h4⟩ := h
    exact ⟨a, dx, fs, h1, e _ _ h2, h3, RepL.mono e p ds _ h4⟩
  | .han k, _, h => by
    unfold Rep at h ⊢
    obtain ⟨a, h1, h2⟩ := h
    exact ⟨a, h1, p _ _ h2⟩
  | .scr l, _, h => by
    unfold Rep at h ⊢
    obtain ⟨a, h1, h2⟩ := h
    exact ⟨a, h1, e.seq h2⟩
  | .tup0 ds, _, h => by
    unfold Rep at h ⊢
    obtain ⟨a, o, vs, h1, h2, h3, h4, h5⟩ := h
    exact ⟨a, o, vs, h1, e _ _ h2, h3, h4, RepL.mono e p ds vs h5⟩
  | .dit kvs, _, h => by
    unfold Rep at h ⊢
    obtain ⟨a, o, l, h1, h2, h3⟩ := h
    exact ⟨a, o, l, h1, e _ _ h2, RepT.mono e p kvs l h3⟩
  | .clo n ds, _, h => by
    unfold Rep at h ⊢
    obtain ⟨a, vs, h1, h2, h3⟩ := h
    exact ⟨a, vs, h1, M.cloM _ _ _ _ _ e h2, RepL.mono e p ds vs h3⟩
theorem RepL.mono (e : Same G G') (p : Pre hs hs') : ∀ (ds : List D) (vs : List V), RepL K M G hs ds vs → RepL K M G' hs' ds vs
  | [], _, h => by unfold RepL at h ⊢; exact h
  | d :: ds, _, h => by
    unfold RepL at h ⊢
    obtain ⟨v, vr, h1, h2, h3⟩ := h
    exact ⟨v, vr, h1, Rep.mono e p d v h2, RepL.mono e p ds vr h3⟩
theorem RepD.mono (e : Same G G') (p : Pre hs hs') : ∀ (ds : List (D × D)) (vs : List (Key × V)), RepD K M G hs ds vs → RepD K M G' hs' ds vs
  | [], _, h => by unfold RepD at h ⊢; exact h
  | (k, d) :: ds, _, h => by
    unfold RepD at h ⊢
    obtain ⟨k', v, vr, h1, h0, h2, h3⟩ := h
    exact ⟨k', v, vr, h1, h0, Rep.mono e p d v h2, RepD.mono e p ds vr h3⟩
theorem RepT.mono (e : Same G G') (p : Pre hs hs') : ∀ (ds : List (D × D)) (vs : List (List Key × V)), RepT K M G hs ds vs → RepT K M G' hs' ds vs
  | [], _, h => by unfold RepT at h ⊢; exact h
  | (k, d) :: ds, _, h => by
    unfold RepT at h ⊢
    obtain ⟨k', v, vr, h1, h0, h2, h3⟩ := h
    exact ⟨k', v, vr, h1, h0, Rep.mono e p d v h2, RepT.mono e p ds vr h3⟩
end
theorem rep_non {v : V} : Rep K M G hs .non v ↔ v = .non := by unfold Rep; rfl
theorem rep_bl {b : Bool} {v : V} : Rep K M G hs (.bl b) v ↔ v = .bl b := by unfold Rep; rfl
theorem rep_int {i : Int} {v : V} : Rep K M G hs (.int i) v ↔ v = .int i := by unfold Rep; rfl
theorem rep_str {i : Str} {v : V} : Rep K M G hs (.str i) v ↔ v = .str i := by unfold Rep; rfl
theorem rep_tupq {ds : List D} {v : V} : Rep K M G hs (.tup ds) v ↔ ∃ a vs, v = .ref a ∧ Tq K M G a vs ∧ RepL K M G hs ds vs := by unfold Rep; rfl
theorem rep_tup {ds : List D} {v : V} (h : Rep K M G hs (.tup ds) v) : ∃ a vs, v = .ref a ∧ SqT K G a vs ∧ RepL K M G hs ds vs := by
  obtain ⟨a, vs, h1, h2, h3⟩ := rep_tupq.mp h
  exact ⟨a, vs, h1, h2.sq, h3⟩
theorem rep_tupR {ds : List D} {a : Addr} {vs : List V} (h : G a = some (.tup vs)) (h2 : RepL K M G hs ds vs) : Rep K M G hs (.tup ds) (.ref a) := rep_tupq.mpr ⟨a, vs, rfl, .of h, h2⟩
theorem rep_dit {kvs : List (D × D)} {v : V} : Rep K M G hs (.dit kvs) v ↔ ∃ a o l, v = .ref a ∧ G a = some (.frz o (.dT l)) ∧ RepT K M G hs kvs l := by unfold Rep; rfl
theorem rep_lst {ds : List D} {v : V} : Rep K M G hs (.lst ds) v ↔ ∃ a vs, v = .ref a ∧ G a = some (.lst vs) ∧ RepL K M G hs ds vs := by unfold Rep; rfl
theorem rep_dic {kvs : List (D × D)} {v : V} : Rep K M G hs (.dic kvs) v ↔ ∃ a o l, v = .ref a ∧ G a = some (.frz o (.dK l)) ∧ RepD K M G hs kvs l := by unfold Rep; rfl
theorem rep_obj {c : Nat} {ds : List D} {v : V} : Rep K M G hs (.obj c ds) v ↔ ∃ a dx fs, v = .ref a ∧ G a = some (.ins (M.cls c) dx fs) ∧ fs.map (·.1) = M.flds c ∧ RepL K M G hs ds (fs.map (·.2)) := by unfold Rep; rfl
theorem rep_han {k : Nat} {v : V} : Rep K M G hs (.han k) v ↔ ∃ a, v = .ref a ∧ hs[k]? = some a := by unfold Rep; rfl
theorem rep_scr {l : List Int} {v : V} : Rep K M G hs (.scr l) v ↔ ∃ a, v = .ref a ∧ SqL K G a (l.map V.int) := by unfold Rep; rfl
theorem rep_clo {n : Nat} {ds : List D} {v : V} : Rep K M G hs (.clo n ds) v ↔ ∃ a vs, v = .ref a ∧ M.clo G n a vs ∧ RepL K M G hs ds vs := by unfold Rep; rfl
theorem repL_nil {vs : List V} : RepL K M G hs [] vs ↔ vs = [] := by unfold RepL; rfl
theorem repL_cons {d : D} {ds : List D} {vs : List V} : RepL K M G hs (d :: ds) vs ↔ ∃ v vr, vs = v :: vr ∧ Rep K M G hs d v ∧ RepL K M G hs ds vr := by
  constructor
  · intro h; unfold RepL at h; exact h
  · intro h; unfold RepL; exact h
theorem RepL.length : ∀ {ds : List D} {vs : List V}, RepL K M G hs ds vs → ds.length = vs.length
  | [], vs, h => by rw [repL_nil] at h; subst h; rfl
  | d :: ds, vs, h => by
    rw [repL_cons] at h
    obtain ⟨v, vr, rfl, _, h3⟩ := h
    simp [RepL.length h3]
theorem RepL.append : ∀ {ds es : List D} {vs ws : List V}, RepL K M G hs ds vs → RepL K M G hs es ws → RepL K M G hs (ds ++ es) (vs ++ ws)
  | [], _, vs, _, h, g => by rw [repL_nil] at h; subst h; exact g
  | d :: ds, _, vs, _, h, g => by
    rw [repL_cons] at h
    obtain ⟨v, vr, rfl, h2, h3⟩ := h
    rw [List.cons_append, List.cons_append, repL_cons]
    exact ⟨v, _, rfl, h2, RepL.append h3 g⟩
theorem RepL.get : ∀ {ds : List D} {vs : List V} {i : Nat} {d : D}, RepL K M G hs ds vs → ds[i]? = some d → ∃ v, vs[i]? = some v ∧ Rep K M G hs d v
  | [], _, _, _, _, e => by simp at e
  | x :: ds, vs, 0, d, h, e => by
    rw [repL_cons] at h
    obtain ⟨v, vr, rfl, h2, h3⟩ := h
    simp at e
    subst e
    exact ⟨v, rfl, h2⟩
  | x :: ds, vs, i + 1, d, h, e => by
    rw [repL_cons] at h
    obtain ⟨v, vr, rfl, h2, h3⟩ := h
    obtain ⟨w, h4, h5⟩ := RepL.get (i := i) h3 (by simpa using e)
    exact ⟨w, by simpa using h4, h5⟩
theorem RepL.get' {ds : List D} {vs : List V} {i : Nat} {v : V} (h : RepL K M G hs ds vs) (e : vs[i]? = some v) : ∃ d, ds[i]? = some d ∧ Rep K M G hs d v := by
  have hl := h.length
  have hi : i < ds.length := by rw [hl]; exact (List.getElem?_eq_some_iff.mp e).1
  have e1 : ds[i]? = some ds[i] := List.getElem?_eq_getElem hi
  obtain ⟨w, h1, h2⟩ := h.get e1
  rw [e] at h1
  cases h1
  exact ⟨_, e1, h2⟩
theorem RepL.set : ∀ {ds : List D} {vs : List V} {d : D} {v : V} (i : Nat), RepL K M G hs ds vs → Rep K M G hs d v → RepL K M G hs (ds.set i d) (vs.set i v)
  | [], vs, _, _, _, h, _ => by rw [repL_nil] at h; subst h; simp [repL_nil]
  | x :: ds, vs, d, v, 0, h, g => by
    rw [repL_cons] at h
    obtain ⟨w, vr, rfl, h2, h3⟩ := h
    rw [List.set_cons_zero, List.set_cons_zero, repL_cons]
    exact ⟨_, _, rfl, g, h3⟩
  | x :: ds, vs, d, v, i + 1, h, g => by
    rw [repL_cons] at h
    obtain ⟨w, vr, rfl, h2, h3⟩ := h
    rw [List.set_cons_succ, List.set_cons_succ, repL_cons]
    exact ⟨_, _, rfl, h2, RepL.set i h3 g⟩
theorem RepL.take : ∀ {ds : List D} {vs : List V} (n : Nat), RepL K M G hs ds vs → RepL K M G hs (ds.take n) (vs.take n)
  | ds, vs, 0, _ => by simp [repL_nil]
  | [], vs, n + 1, h => by rw [repL_nil] at h; subst h; simp [repL_nil]
  | x :: ds, vs, n + 1, h => by
    rw [repL_cons] at h
    obtain ⟨w, vr, rfl, h2, h3⟩ := h
    rw [List.take_succ_cons, List.take_succ_cons, repL_cons]
    exact ⟨_, _, rfl, h2, RepL.take n h3⟩
theorem RepL.drop : ∀ {ds : List D} {vs : List V} (n : Nat), RepL K M G hs ds vs → RepL K M G hs (ds.drop n) (vs.drop n)
  | ds, vs, 0, h => by simpa using h
  | [], vs, n + 1, h => by rw [repL_nil] at h; subst h; simp [repL_nil]
  | x :: ds, vs, n + 1, h => by
    rw [repL_cons] at h
    obtain ⟨w, vr, rfl, h2, h3⟩ := h
    rw [List.drop_succ_cons, List.drop_succ_cons]
    exact RepL.drop n h3
theorem RepL.ints : ∀ {ns : List Int} {vs : List V}, RepL K M G hs (ns.map D.int) vs ↔ vs = ns.map V.int
  | [], vs => by simp [repL_nil]
  | n :: ns, vs => by
    rw [List.map_cons, repL_cons, List.map_cons]
    constructor
    · rintro ⟨v, vr, rfl, h2, h3⟩
      rw [rep_int] at h2
      rw [RepL.ints] at h3
      rw [h2, h3]
    · rintro rfl
      exact ⟨_, _, rfl, rep_int.mpr rfl, RepL.ints.mpr rfl⟩
end
/-- what stands at a handle, or at a name that owns its object -/
def At (K : PySem.W.Frag) (M : Mp) (G : Hp) (hs : List Addr) (H : Hp) (a : Addr) : D → Prop
  | .lst ds => ∃ vs, H a = some (.lst vs) ∧ RepL K M G hs ds vs
  | .dic kvs => ∃ l, H a = some (.dK l) ∧ RepD K M G hs kvs l
  | .dit kvs => ∃ l, H a = some (.dT l) ∧ RepT K M G hs kvs l
  | .obj c ds => ∃ dx fs, H a = some (.ins (M.cls c) dx fs) ∧ fs.map (·.1) = (M.flds c).take ds.length ∧ RepL K M G hs ds (fs.map (·.2))
  | _ => False
theorem At.mono {K : PySem.W.Frag} {M : Mp} {G G' H H' : Hp} {hs hs' : List Addr} {a : Addr} (e : Same G G') (p : Pre hs hs') (h : H' a = H a) : ∀ {d : D}, At K M G hs H a d → At K M G' hs' H' a d
  | .lst ds, ⟨vs, h1, h2⟩ => ⟨vs, by rw [h]; exact h1, h2.mono e p⟩
  | .dic kvs, ⟨vs, h1, h2⟩ => ⟨vs, by rw [h]; exact h1, h2.mono e p⟩
  | .dit kvs, ⟨vs, h1, h2⟩ => ⟨vs, by rw [h]; exact h1, h2.mono e p⟩
  | .obj c ds, ⟨dx, fs, h1, h2, h3⟩ => ⟨dx, fs, by rw [h]; exact h1, h2, h3.mono e p⟩
theorem At.some {K : PySem.W.Frag} {M : Mp} {G H : Hp} {hs : List Addr} {a : Addr} : ∀ {d : D}, At K M G hs H a d → ∃ o, H a = Option.some o ∧ ∀ ps, o ≠ .tbl ps
  | .lst ds, ⟨vs, h1, h2⟩ => ⟨_, h1, fun _ z => by cases z⟩
  | .dic kvs, ⟨vs, h1, h2⟩ => ⟨_, h1, fun _ z => by cases z⟩
  | .dit kvs, ⟨vs, h1, h2⟩ => ⟨_, h1, fun _ z => by cases z⟩
  | .obj c ds, ⟨dx, fs, h1, h2, h3⟩ => ⟨_, h1, fun _ z => by cases z⟩
/-- what tells of a code object -/
def Codeish (φ : Heap → Prop) : Prop := ∃ (c : Addr) (q : Str), ∀ h, φ h → ∃ (oc : Obj) (vs : Array Value) (t : Tok), h.get? c = some oc ∧ oc.data = .fields vs ∧ vs[1]? = some (.str q t)
/-- what never changes: a tuple, a code object -/
def fixO (o : HO) : Prop := (∃ vs, o = .tup vs) ∨ ∃ φ, o = .ext φ ∧ Codeish φ
theorem At.nofix {K : PySem.W.Frag} {M : Mp} {G H : Hp} {hs : List Addr} {a : Addr} : ∀ {d : D} {o : HO}, At K M G hs H a d → H a = Option.some o → ¬ fixO o
  | .lst ds, o, ⟨vs, h1, h2⟩, e => by rw [h1] at e; cases e; rintro (⟨_, z⟩ | ⟨_, z, _⟩) <;> cases z
  | .dic kvs, o, ⟨vs, h1, h2⟩, e => by rw [h1] at e; cases e; rintro (⟨_, z⟩ | ⟨_, z, _⟩) <;> cases z
  | .dit kvs, o, ⟨vs, h1, h2⟩, e => by rw [h1] at e; cases e; rintro (⟨_, z⟩ | ⟨_, z, _⟩) <;> cases z
  | .obj c ds, o, ⟨dx, fs, h1, h2, h3⟩, e => by rw [h1] at e; cases e; rintro (⟨_, z⟩ | ⟨_, z, _⟩) <;> cases z
theorem at_no {K : PySem.W.Frag} {M : Mp} {G H : Hp} {hs : List Addr} {a : Addr} {d : D} {o : HO} (h : At K M G hs H a d) (e : H a = some o) : ∀ ps, o ≠ .tbl ps := by
  obtain ⟨u, e1, n⟩ := At.some h
  rw [e] at e1
  cases e1
  exact n
structure Sim (K : PySem.W.Frag) (M : Mp) (G : Hp) (hs : List Addr) (s : DS) (H : Hp) : Prop where
  sub : Same G H
  len : hs.length = s.length
  nd : hs.Nodup
  hG : ∀ a ∈ hs, G a = none
  han : ∀ (k : Nat) (a : Addr) (d : D), hs[k]? = some a → s[k]? = some d → At K M G hs H a d
  tab : TabsX M.tabs H
  tG : ∀ a o, G a = some o → ∀ ps, o ≠ .tbl ps
def inTab (M : Mp) (a : Addr) : Prop := ∃ p ∈ M.tabs.l, p.1 = a
/-- nothing but a table may stand there -/
def Nt (H : Hp) (a : Addr) : Prop := ∀ o, H a = some o → ∃ ps, o = HO.tbl ps
theorem nt_none {H : Hp} {a : Addr} (h : H a = none) : Nt H a := fun o e => by rw [h] at e; cases e
theorem Nt.no {H : Hp} {a : Addr} {o : HO} (h : Nt H a) (e : H a = some o) (n : ∀ ps, o ≠ .tbl ps) : False := by
  obtain ⟨ps, z⟩ := h o e
  exact n ps z
/-- .. or what never changes and no one tracks -/
def NtT (hs : List Addr) (H : Hp) (a : Addr) : Prop := Nt H a ∨ ((∃ o, H a = some o ∧ fixO o) ∧ a ∉ hs)
/-- what a run may do to the heaps -/
structure Stp (M : Mp) (G : Hp) (hs : List Addr) (H : Hp) (G' : Hp) (hs' : List Addr) (H' : Hp) : Prop where
  gg : Same G G'
  fr : ∀ a o, G' a = some o → G a = some o ∨ NtT hs H a
  hp : Pre hs hs'
  hf : ∀ a ∈ hs', a ∈ hs ∨ Nt H a
  kp : ∀ a o, H a = some o → a ∉ hs → (∀ ps, o ≠ .tbl ps) → H' a = some o
  dm : ∀ a, Nt H' a → Nt H a
theorem Stp.refl (M : Mp) (G : Hp) (hs : List Addr) (H : Hp) : Stp M G hs H G hs H :=
  ⟨fun _ _ h => h, fun _ _ h => .inl h, Pre.refl _, fun _ h => .inl h, fun _ _ h _ _ => h, fun _ h => h⟩
theorem Pre.sub {hs hs' : List Addr} (h : Pre hs hs') {a : Addr} (m : a ∈ hs) : a ∈ hs' := by
  obtain ⟨k, hk, e⟩ := List.getElem_of_mem m
  exact List.mem_of_getElem? (h k a (by rw [List.getElem?_eq_getElem hk, e]))
theorem Stp.back {M : Mp} {G G1 H H1 : Hp} {hs hs1 : List Addr} (S : Stp M G hs H G1 hs1 H1) {a : Addr} (h : NtT hs1 H1 a) : NtT hs H a := by
  rcases h with h | ⟨⟨o, e, fo⟩, n⟩
  · exact .inl (S.dm a h)
  · have n0 : a ∉ hs := fun z => n (S.hp.sub z)
    cases q : H a with
    | none => exact .inl (nt_none q)
    | some u =>
      by_cases t : ∀ ps, u ≠ .tbl ps
      · have := S.kp a u q n0 t
        rw [e] at this
        cases this
        exact .inr ⟨⟨_, q, fo⟩, n0⟩
      · refine .inl fun o z => ?_
        rw [q] at z
        cases z
        exact Classical.byContradiction fun y => t fun ps w => y ⟨ps, w⟩
theorem Stp.trans {M : Mp} {G G1 G2 H H1 H2 : Hp} {hs hs1 hs2 : List Addr} (a : Stp M G hs H G1 hs1 H1) (b : Stp M G1 hs1 H1 G2 hs2 H2) : Stp M G hs H G2 hs2 H2 where
  gg := a.gg.trans b.gg
  fr := fun x o h => by
    rcases b.fr x o h with z | z
    · exact a.fr x o z
    · exact .inr (a.back z)
  hp := a.hp.trans b.hp
  hf := fun x h => by
    rcases b.hf x h with z | z
    · exact a.hf x z
    · exact .inr (a.dm x z)
  kp := fun x o h n t => b.kp x o (a.kp x o h n t) (fun z => by
    rcases a.hf x z with q | q
    · exact n q
    · exact q.no h t) t
  dm := fun x h => a.dm x (b.dm x h)
section
variable {K : PySem.W.Frag} {M : Mp} {G G' H H' : Hp} {hs hs' : List Addr} {s s' : DS}
theorem Sim.hanAt (S : Sim K M G hs s H) {a : Addr} (h : a ∈ hs) : ∃ (k : Nat) (d : D), hs[k]? = some a ∧ s[k]? = some d ∧ At K M G hs H a d := by
  obtain ⟨k, hk, e⟩ := List.getElem_of_mem h
  have hk2 : k < s.length := by rw [← S.len]; exact hk
  have e1 : hs[k]? = some a := by rw [List.getElem?_eq_getElem hk, e]
  have e2 : s[k]? = some s[k] := List.getElem?_eq_getElem hk2
  exact ⟨k, _, e1, e2, S.han k a _ e1 e2⟩
theorem Sim.hanS (S : Sim K M G hs s H) {a : Addr} (h : a ∈ hs) : ∃ o, H a = some o ∧ ∀ ps, o ≠ .tbl ps := by
  obtain ⟨k, d, _, _, h3⟩ := S.hanAt h
  exact h3.some
theorem Sim.tabS (S : Sim K M G hs s H) {a : Addr} (h : inTab M a) : ∃ ps, H a = some (.tbl ps) := by
  obtain ⟨p, hp, e⟩ := h
  obtain ⟨ps, h1, _⟩ := S.tab.1 p hp
  rw [← e]
  exact ⟨ps, h1⟩
theorem Sim.free (S : Sim K M G hs s H) {p : Addr} (h : H p = none) : G p = none ∧ p ∉ hs ∧ ¬ inTab M p := by
  refine ⟨S.sub.free h, fun z => ?_, fun z => ?_⟩
  · obtain ⟨o, e, _⟩ := S.hanS z
    rw [h] at e; cases e
  · obtain ⟨ps, e⟩ := S.tabS z
    rw [h] at e; cases e
theorem same_upd {G : Hp} {p : Addr} {o : HO} (h : G p = none) : Same G (upd G p o) := fun b u e => by
  rw [upd_ne (ne_of_none e h)]
  exact e
/-- an object that no one tracks is laid -/
theorem Sim.extH (S : Sim K M G hs s H) (k : ∀ a o, H a = some o → H' a = some o) : Sim K M G hs s H' where
  sub := fun a o e => k a o (S.sub a o e)
  len := S.len
  nd := S.nd
  hG := S.hG
  han := fun i a d e1 e2 => (S.han i a d e1 e2).mono (fun _ _ h => h) (Pre.refl _) (by
    obtain ⟨o, e, _⟩ := (S.han i a d e1 e2).some
    rw [e, k a o e])
  tab := S.tab.ext k
  tG := S.tG
theorem Stp.extH (k : ∀ a o, H a = some o → H' a = some o) : Stp M G hs H G hs H' :=
  ⟨fun _ _ h => h, fun _ _ h => .inl h, Pre.refl _, fun _ h => .inl h, fun a o h _ _ => k a o h, fun a h o q => h o (k a o q)⟩
/-- what stands in H already is from now on still -/
theorem Sim.still (S : Sim K M G hs s H) {p : Addr} {o : HO} (e : H p = some o) (n : p ∉ hs) (t : ¬ inTab M p) (g : G p = none) (no : ∀ ps, o ≠ .tbl ps) : Sim K M (upd G p o) hs s H where
  sub := fun a u q => by
    by_cases z : a = p
    · subst z; rw [upd_same] at q; cases q; exact e
    · rw [upd_ne z] at q; exact S.sub a u q
  len := S.len
  nd := S.nd
  hG := fun a h => by
    have na : a ≠ p := fun z => n (by rw [← z]; exact h)
    rw [upd_ne na]
    exact S.hG a h
  han := fun i a d e1 e2 => (S.han i a d e1 e2).mono (same_upd g) (Pre.refl _) rfl
  tab := S.tab
  tG := fun a u e => by
    by_cases z : a = p
    · subst z; rw [upd_same] at e; cases e; exact no
    · rw [upd_ne z] at e; exact S.tG a u e
/-- a new thing is laid -/
theorem Sim.laid (S : Sim K M G hs s H) {p : Addr} {o : HO} (h : H p = none) (no : ∀ ps, o ≠ .tbl ps := by intro ps z; cases z) : Stp M G hs H (upd G p o) hs (upd H p o) ∧ Sim K M (upd G p o) hs s (upd H p o) := by
  obtain ⟨f1, f2, f3⟩ := S.free h
  have k : ∀ a u, H a = some u → upd H p o a = some u := fun a u e => by rw [upd_ne (ne_of_none e h)]; exact e
  refine ⟨⟨same_upd f1, fun a u e => ?_, Pre.refl _, fun _ h => .inl h, fun a u e _ _ => k a u e, fun a e => ?_⟩, (S.extH k).still upd_same f2 f3 f1 no⟩
  · by_cases z : a = p
    · subst z; exact .inr (.inl (nt_none h))
    · rw [upd_ne z] at e; exact .inl e
  · by_cases z : a = p
    · subst z; exact nt_none h
    · exact fun o q => e o (by rw [upd_ne z]; exact q)
end
structure Anc where
  G : Hp
  hs : List Addr
  H : Hp
  slf : Option Addr
structure Sm (K : PySem.W.Frag) (M : Mp) (A : Anc) (σ : L2.St) (H G : Hp) (hs : List Addr) (own : Nat → Addr) (η : Env) (s : DS) : Prop where
  sim : Sim K M G hs s H
  stp : Stp M A.G A.hs A.H G hs H
  pl : ∀ (i : Nat) (d : D), η[i]? = some (.v d) → ∃ v, σ[i]? = some (some v) ∧ Rep K M G hs d v
  ow : ∀ (i : Nat) (d : D), η[i]? = some (.o d) → σ[i]? = some (some (.ref (own i))) ∧ At K M G hs H (own i) d ∧ G (own i) = none ∧ own i ∉ hs ∧ ¬ inTab M (own i) ∧ Nt A.H (own i)
  inj : ∀ (i j : Nat) (d e : D), η[i]? = some (.o d) → η[j]? = some (.o e) → own i = own j → i = j
  el : η.length = σ.length
  sf : ∀ (x : Addr) (d : D), A.slf = some x → η[0]? = some (.o d) → own 0 = x
section
variable {K : PySem.W.Frag} {M : Mp} {A : Anc} {σ : L2.St} {H H' G G' : Hp} {hs hs' : List Addr} {own : Nat → Addr} {η : Env} {s s' : DS}
theorem Stp.keepAt (S : Stp M G hs H G' hs' H') {a : Addr} {d : D} (h : At K M G hs H a d) (n : a ∉ hs) (t : ¬ inTab M a) : At K M G' hs' H' a d :=
  h.mono S.gg S.hp (by
    obtain ⟨o, e, no⟩ := h.some
    rw [e, S.kp a o e n no])
theorem Stp.away (S : Stp M G hs H G' hs' H') {a : Addr} {o : HO} (e : H a = some o) (n : a ∉ hs) (g : G a = none) (no : ∀ ps, o ≠ .tbl ps) (nt : ¬ fixO o := by rintro (⟨_, z⟩ | ⟨_, z, _⟩) <;> cases z) : G' a = none ∧ a ∉ hs' := by
  constructor
  · cases q : G' a with
    | none => rfl
    | some u =>
      rcases S.fr a u q with z | z
      · rw [g] at z; cases z
      · rcases z with z | ⟨⟨u2, z, fo⟩, _⟩
        · exact (z.no e no).elim
        · rw [e] at z
          cases z
          exact (nt fo).elim
  · intro h
    rcases S.hf a h with z | z
    · exact n z
    · exact z.no e no
theorem Sm.step (I : Sm K M A σ H G hs own η s) (S : Stp M G hs H G' hs' H') (S' : Sim K M G' hs' s' H') : Sm K M A σ H' G' hs' own η s' where
  sim := S'
  stp := I.stp.trans S
  pl := fun i d e => by
    obtain ⟨v, h1, h2⟩ := I.pl i d e
    exact ⟨v, h1, h2.mono S.gg S.hp⟩
  ow := fun i d e => by
    obtain ⟨h1, h2, h3, h4, h5, h6⟩ := I.ow i d e
    obtain ⟨o, e1, no⟩ := h2.some
    obtain ⟨a1, a2⟩ := S.away e1 h4 h3 no (h2.nofix e1)
    exact ⟨h1, S.keepAt h2 h4 h5, a1, a2, h5, h6⟩
  inj := I.inj
  el := I.el
  sf := I.sf
end
/-- an error: its class, what it bears -/
def ExR (K : PySem.W.Frag) (M : Mp) (G : Hp) (hs : List Addr) (H : Hp) (c : Nat) (p : List D) (cls : Value) (dx : Option Addr) : Prop :=
  cls = .ref (M.exc c) ∧ ((p = [] ∧ dx = none) ∨ ∃ d v dd, p = [d] ∧ Rep K M G hs d v ∧ dx = some dd ∧ H dd = some (.xd [(M.row, v)]))
def RPost {α : Type} (K : PySem.W.Frag) (M : Mp) (σ : L2.St) (W : WX) (G : Hp) (hs : List Addr) (H : Hp) (r : R α) (k : α → Hp → List Addr → DS → Hp → Prop) : Prop :=
  match r with
  | .ok a s' => ∀ G' hs' H', Stp M G hs H G' hs' H' → Sim K M G' hs' s' H' → k a G' hs' s' H'
  | .ex c p s' => ∀ G' hs' H' cls dx, Stp M G hs H G' hs' H' → Sim K M G' hs' s' H' → ExR K M G' hs' H' c p cls dx → W cls dx σ H'
  | .bad => False
section
variable {K : PySem.W.Frag} {M : Mp} {σ : L2.St} {W : WX} {G G' H H' : Hp} {hs hs' : List Addr} {s s' : DS} {α β : Type}
theorem RPost.step {r : R α} {k : α → Hp → List Addr → DS → Hp → Prop} (S : Stp M G hs H G' hs' H') (h : RPost K M σ W G hs H r k) : RPost K M σ W G' hs' H' r k := by
  cases r with
  | ok a s' => exact fun G2 hs2 H2 S2 => h G2 hs2 H2 (S.trans S2)
  | ex c p s' => exact fun G2 hs2 H2 cls dx S2 => h G2 hs2 H2 cls dx (S.trans S2)
  | bad => exact h
theorem RPost.mono {r : R α} {k k' : α → Hp → List Addr → DS → Hp → Prop} (h : RPost K M σ W G hs H r k) (m : ∀ a G' hs' s' H', Stp M G hs H G' hs' H' → Sim K M G' hs' s' H' → k a G' hs' s' H' → k' a G' hs' s' H') : RPost K M σ W G hs H r k' := by
  cases r with
  | ok a s' => exact fun G2 hs2 H2 S2 S3 => m _ _ _ _ _ S2 S3 (h G2 hs2 H2 S2 S3)
  | ex c p s' => exact h
  | bad => exact h
theorem RPost.bind {r : R α} {f : α → DS → R β} {k : β → Hp → List Addr → DS → Hp → Prop} (h : RPost K M σ W G hs H (r.bind f) k) : RPost K M σ W G hs H r (fun a G' hs' s' H' => RPost K M σ W G' hs' H' (f a s') k) := by
  cases r with
  | ok a s' => exact fun G2 hs2 H2 S2 _ => RPost.step S2 h
  | ex c p s' => exact h
  | bad => exact h
theorem RPost.ofO {o : Option α} {k : α → Hp → List Addr → DS → Hp → Prop} (h : RPost K M σ W G hs H (R.ofO o s) k) : ∃ a, o = some a ∧ ∀ G' hs' H', Stp M G hs H G' hs' H' → Sim K M G' hs' s H' → k a G' hs' s H' := by
  cases o with
  | none => exact h.elim
  | some a => exact ⟨a, rfl, h⟩
end
/-- a value that is read here and now -/
def RV (K : PySem.W.Frag) (M : Mp) (G : Hp) (hs : List Addr) (H : Hp) (d : D) (v : V) : Prop := Rep K M G hs d v ∨ ∃ a, v = .ref a ∧ At K M G hs H a d
/-- a value that may be read for a while -/
def BV (K : PySem.W.Frag) (M : Mp) (G : Hp) (hs : List Addr) (H : Hp) (d : D) (v : V) : Prop := Rep K M G hs d v ∨ ∃ a, v = .ref a ∧ At K M G hs H a d ∧ a ∉ hs ∧ ¬ inTab M a ∧ G a = none
theorem BV.step {K : PySem.W.Frag} {M : Mp} {G G' H H' : Hp} {hs hs' : List Addr} {d : D} {v : V} (S : Stp M G hs H G' hs' H') (h : BV K M G hs H d v) : BV K M G' hs' H' d v := by
  rcases h with h | ⟨a, rfl, h1, h2, h3, h4⟩
  · exact .inl (h.mono S.gg S.hp)
  · obtain ⟨o, e1, no⟩ := h1.some
    obtain ⟨a1, a2⟩ := S.away e1 h2 h4 no (h1.nofix e1)
    exact .inr ⟨a, rfl, S.keepAt h1 h2 h3, a2, h3, a1⟩
/-- a handle is what stands at it -/
def deref (s : DS) : D → D
  | .han k => s.getD k .non
  | d => d
theorem BV.read {K : PySem.W.Frag} {M : Mp} {G H : Hp} {hs : List Addr} {s : DS} {d : D} {v : V} (S : Sim K M G hs s H) (h : BV K M G hs H d v) : RV K M G hs H (deref s d) v := by
  rcases h with h | ⟨a, rfl, h1, h2, h3, h4⟩
  · cases d with
    | han k =>
      rw [rep_han] at h
      obtain ⟨a, rfl, h1⟩ := h
      have hk : k < s.length := by rw [← S.len]; exact (List.getElem?_eq_some_iff.mp h1).1
      have e2 : s[k]? = some s[k] := List.getElem?_eq_getElem hk
      refine .inr ⟨a, rfl, ?_⟩
      show At K M G hs H a (s.getD k .non)
      rw [List.getD_eq_getElem?_getD, e2]
      exact S.han k a _ h1 e2
    | _ => exact .inl h
  · cases d with
    | han k => exact h1.elim
    | _ => exact .inr ⟨a, rfl, h1⟩
section
variable {K : PySem.W.Frag} {M : Mp} {G H : Hp} {hs : List Addr} {s : DS}
theorem RV.int {i : Int} {v : V} (h : RV K M G hs H (.int i) v) : v = .int i := by
  rcases h with h | ⟨_, _, h⟩
  · exact rep_int.mp h
  · exact h.elim
theorem RV.str {i : Str} {v : V} (h : RV K M G hs H (.str i) v) : v = .str i := by
  rcases h with h | ⟨_, _, h⟩
  · exact rep_str.mp h
  · exact h.elim
theorem RV.bl {i : Bool} {v : V} (h : RV K M G hs H (.bl i) v) : v = .bl i := by
  rcases h with h | ⟨_, _, h⟩
  · exact rep_bl.mp h
  · exact h.elim
theorem RV.non {v : V} (h : RV K M G hs H .non v) : v = .non := by
  rcases h with h | ⟨_, _, h⟩
  · exact rep_non.mp h
  · exact h.elim
theorem RV.tup (S : Sim K M G hs s H) {ds : List D} {v : V} (h : RV K M G hs H (.tup ds) v) : ∃ a vs, v = .ref a ∧ SqT K H a vs ∧ RepL K M G hs ds vs := by
  rcases h with h | ⟨_, _, h⟩
  · obtain ⟨a, vs, h1, h2, h3⟩ := rep_tup h
    exact ⟨a, vs, h1, same_seqT S.sub h2, h3⟩
  · exact h.elim
theorem RV.lst (S : Sim K M G hs s H) {ds : List D} {v : V} (h : RV K M G hs H (.lst ds) v) : ∃ a vs, v = .ref a ∧ H a = some (.lst vs) ∧ RepL K M G hs ds vs := by
  rcases h with h | ⟨a, e, vs, h1, h2⟩
  · obtain ⟨a, vs, h1, h2, h3⟩ := rep_lst.mp h
    exact ⟨a, vs, h1, S.sub _ _ h2, h3⟩
  · exact ⟨a, vs, e, h1, h2⟩
end
section
variable (M : Mp) (X : Cx) (W : WX)
abbrev EEx (t : TE) (f : Env → DS → R D) : Prop := ∀ (A : Anc) (σ : L2.St) (H G : Hp) (hs : List Addr) (own : Nat → Addr) (η : Env) (s : DS) (Q : VK), Sm X.K M A σ H G hs own η s →
    RPost X.K M σ W G hs H (f η s) (fun d G' hs' _ H' => ∀ v, Rep X.K M G' hs' d v → Q v H') → t σ H Q
abbrev BEx (t : TE) (f : Env → DS → R D) : Prop := ∀ (A : Anc) (σ : L2.St) (H G : Hp) (hs : List Addr) (own : Nat → Addr) (η : Env) (s : DS) (Q : VK), Sm X.K M A σ H G hs own η s →
    RPost X.K M σ W G hs H (f η s) (fun d G' hs' _ H' => ∀ v, BV X.K M G' hs' H' d v → Q v H') → t σ H Q
abbrev TEx (t : TT) (f : Env → DS → R Bool) : Prop := ∀ (A : Anc) (σ : L2.St) (H G : Hp) (hs : List Addr) (own : Nat → Addr) (η : Env) (s : DS) (Q : Bool → Hp → Prop), Sm X.K M A σ H G hs own η s →
    RPost X.K M σ W G hs H (f η s) (fun b _ _ _ H' => Q b H') → t σ H Q
def BVL (K : PySem.W.Frag) (M : Mp) (G : Hp) (hs : List Addr) (H : Hp) : List D → List V → Prop := Paired (BV K M G hs H)
abbrev AEx (t : TA) (f : Env → DS → R (List D)) : Prop := ∀ (A : Anc) (σ : L2.St) (H G : Hp) (hs : List Addr) (own : Nat → Addr) (η : Env) (s : DS) (Q : List V → Hp → Prop), Sm X.K M A σ H G hs own η s →
    RPost X.K M σ W G hs H (f η s) (fun ds G' hs' _ H' => ∀ vs, RepL X.K M G' hs' ds vs → Q vs H') → t σ H Q
abbrev ABEx (t : TA) (f : Env → DS → R (List D)) : Prop := ∀ (A : Anc) (σ : L2.St) (H G : Hp) (hs : List Addr) (own : Nat → Addr) (η : Env) (s : DS) (Q : List V → Hp → Prop), Sm X.K M A σ H G hs own η s →
    RPost X.K M σ W G hs H (f η s) (fun ds G' hs' _ H' => ∀ vs, BVL X.K M G' hs' H' ds vs → Q vs H') → t σ H Q
structure DE (e : Expr) (f : Env → DS → R D) : Prop where
  ex : ∃ t, PE X e t ∧ EEx M X W t f
structure DB (e : Expr) (f : Env → DS → R D) : Prop where
  ex : ∃ t, PE X e t ∧ BEx M X W t f
structure DT (e : Expr) (f : Env → DS → R Bool) : Prop where
  ex : ∃ t, PT X e t ∧ TEx M X W t f
structure DW (e : Expr) (f : Env → DS → R Bool) : Prop where
  ex : ∃ t, PW X e t ∧ TEx M X W t f
structure DA (es : List Expr) (f : Env → DS → R (List D)) : Prop where
  ex : ∃ t, PA X es t ∧ AEx M X W t f
structure DAB (es : List Expr) (f : Env → DS → R (List D)) : Prop where
  ex : ∃ t, PA X es t ∧ ABEx M X W t f
end
section
variable {M : Mp} {X : Cx} {W : WX}
theorem DE.b {e : Expr} {f : Env → DS → R D} (h : DE M X W e f) : DB M X W e f := by
  obtain ⟨t, p, h⟩ := h.ex
  exact ⟨t, p, fun A σ H G hs own η s Q I r => h A σ H G hs own η s Q I (r.mono fun a G' hs' s' H' _ _ k v q => k v (.inl q))⟩
/-- a constant -/
def cD (d : D) : Env → DS → R D := fun _ s => .ok d s
theorem de_int {i : Int} {j pos} : DE M X W (.Constant (.int i) j pos) (cD (.int i)) := ⟨_, pe_int, fun A σ H G hs own η s Q I r => r G hs H (Stp.refl _ _ _ _) I.sim _ (rep_int.mpr rfl)⟩
theorem de_bl {b : Bool} {j pos} : DE M X W (.Constant (.bool b) j pos) (cD (.bl b)) := ⟨_, pe_bl, fun A σ H G hs own η s Q I r => r G hs H (Stp.refl _ _ _ _) I.sim _ (rep_bl.mpr rfl)⟩
theorem de_str {x : Str} {j pos} : DE M X W (.Constant (.str x) j pos) (cD (.str x)) := ⟨_, pe_str, fun A σ H G hs own η s Q I r => r G hs H (Stp.refl _ _ _ _) I.sim _ (rep_str.mpr rfl)⟩
/-- a name -/
def vD (i : Nat) : Env → DS → R D := fun η s => match η[i]? with
  | some (.v d) => .ok d s
  | _ => .bad
/-- .. read for a while -/
def vB (i : Nat) : Env → DS → R D := fun η s => match η[i]? with
  | some (.v d) => .ok d s
  | some (.o d) => .ok d s
  | _ => .bad
theorem RPost.var {K : PySem.W.Frag} {σ : L2.St} {G H : Hp} {hs : List Addr} {s : DS} {η : Env} {i : Nat} {k : D → Hp → List Addr → DS → Hp → Prop} (h : RPost K M σ W G hs H (vD i η s) k) : ∃ d, η[i]? = some (.v d) ∧ ∀ G' hs' H', Stp M G hs H G' hs' H' → Sim K M G' hs' s H' → k d G' hs' s H' := by
  unfold vD at h
  split at h
  · exact ⟨_, by assumption, h⟩
  · exact h.elim
theorem RPost.varB {K : PySem.W.Frag} {σ : L2.St} {G H : Hp} {hs : List Addr} {s : DS} {η : Env} {i : Nat} {k : D → Hp → List Addr → DS → Hp → Prop} (h : RPost K M σ W G hs H (vB i η s) k) : ∃ d, (η[i]? = some (.v d) ∨ η[i]? = some (.o d)) ∧ ∀ G' hs' H', Stp M G hs H G' hs' H' → Sim K M G' hs' s H' → k d G' hs' s H' := by
  unfold vB at h
  split at h
  · exact ⟨_, .inl (by assumption), h⟩
  · exact ⟨_, .inr (by assumption), h⟩
  · exact h.elim
theorem Sm.bv {K : PySem.W.Frag} {A : Anc} {σ : L2.St} {H G : Hp} {hs : List Addr} {own : Nat → Addr} {η : Env} {s : DS} {i : Nat} {d : D} (I : Sm K M A σ H G hs own η s) (e : η[i]? = some (.v d) ∨ η[i]? = some (.o d)) : ∃ v, σ[i]? = some (some v) ∧ BV K M G hs H d v := by
  rcases e with e | e
  · obtain ⟨v, h1, h2⟩ := I.pl i d e
    exact ⟨v, h1, .inl h2⟩
  · obtain ⟨h1, h2, h3, h4, h5, h6⟩ := I.ow i d e
    exact ⟨_, h1, .inr ⟨_, rfl, h2, h4, h5, h3⟩⟩
theorem de_v (i : Nat) {x : Str} {pos : Pos} (hN : X.N[i]? = some x := by rfl) (hv : Vis X.env.scope x := by first | exact Or.inl rfl | exact Or.inr (Or.inl rfl) | exact Or.inr (Or.inr rfl)) (hd : (x == ("__debug__" : Str)) = false := by decide)
    (hcd : (x == ("__classdict__" : Str)) = false := by decide) : DE M X W (.Name x pos) (vD i) := by
  refine ⟨_, pe_var hN hv hd hcd, fun A σ H G hs own η s Q I r => ?_⟩
  obtain ⟨d, e, k⟩ := r.var
  obtain ⟨v, h1, h2⟩ := I.pl i d e
  exact ⟨v, h1, k G hs H (Stp.refl _ _ _ _) I.sim v h2⟩
theorem db_v (i : Nat) {x : Str} {pos : Pos} (hN : X.N[i]? = some x := by rfl) (hv : Vis X.env.scope x := by first | exact Or.inl rfl | exact Or.inr (Or.inl rfl) | exact Or.inr (Or.inr rfl)) (hd : (x == ("__debug__" : Str)) = false := by decide)
    (hcd : (x == ("__classdict__" : Str)) = false := by decide) : DB M X W (.Name x pos) (vB i) := by
  refine ⟨_, pe_var hN hv hd hcd, fun A σ H G hs own η s Q I r => ?_⟩
  obtain ⟨d, e, k⟩ := r.varB
  obtain ⟨v, h1, h2⟩ := I.bv e
  exact ⟨v, h1, k G hs H (Stp.refl _ _ _ _) I.sim v h2⟩
end
end DL
set_option Elab.async false
set_option linter.all false
set_option maxRecDepth 100000
set_option maxHeartbeats 2000000
namespace DL
open PySem PySem.Spec PyProof.Rows L2
section
variable (M : Mp) (X : Cx)
abbrev OEx (r : R2) (o : D → D → Option D) : Prop := ∀ (G : Hp) (hs : List Addr) (s : DS) (H : Hp) (x y z : D) (v u : V) (Q : VK), Sim X.K M G hs s H → RV X.K M G hs H x v → RV X.K M G hs H y u → o x y = some z →
    (∀ G' H', Stp M G hs H G' hs H' → Sim X.K M G' hs s H' → ∀ w, Rep X.K M G' hs z w → Q w H') → r v u H Q
structure OpD (op : Value → Value → Sem Value) (o : D → D → Option D) : Prop where
  ex : ∃ r, OpR X op r ∧ OEx M X r o
end
/-- a op b -/
def bopD (o : D → D → Option D) (fa fb : Env → DS → R D) : Env → DS → R D := fun η s => (fa η s).bind fun x s1 => (fb η s1).bind fun y s2 => R.ofO (o (deref s2 x) (deref s2 y)) s2
def uopD (o : D → Option D) (fa : Env → DS → R D) : Env → DS → R D := fun η s => (fa η s).bind fun x s1 => R.ofO (o (deref s1 x)) s1
def asB : D → Option Bool
  | .bl b => some b
  | _ => none
/-- a value as a test -/
def tstD (fa : Env → DS → R D) : Env → DS → R Bool := fun η s => (fa η s).bind fun x s1 => R.ofO (asB x) s1
theorem asB_some {d : D} {b : Bool} (h : asB d = some b) : d = .bl b := by
  cases d <;> simp_all [asB]
section
variable {M : Mp} {X : Cx} {W : WX} {a b : Expr} {fa fb : Env → DS → R D} {pos : Pos}
theorem bin_run {op : Value → Value → Sem Value} {o : D → D → Option D} {r : R2} {ta tb : TE} {A : Anc} {σ : L2.St} {H G : Hp} {hs : List Addr} {own : Nat → Addr} {η : Env} {s : DS} {Q : VK}
    (hr : OEx M X r o)
    (ha : BEx M X W ta fa)
    (hb : BEx M X W tb fb)
    (I : Sm X.K M A σ H G hs own η s) (hp : RPost X.K M σ W G hs H (bopD o fa fb η s) (fun d G' hs' _ H' => ∀ v, Rep X.K M G' hs' d v → Q v H')) : tOp r ta tb σ H Q := by
  show ta σ H fun x H1 => tb σ H1 fun y H2 => r x y H2 Q
  refine ha A σ H G hs own η s _ I (hp.bind.mono fun x G1 hs1 s1 H1 S1 J1 h1 v hv => ?_)
  refine hb A σ H1 G1 hs1 own η s1 _ (I.step S1 J1) (h1.bind.mono fun y G2 hs2 s2 H2 S2 J2 h2 u hu => ?_)
  obtain ⟨z, e, k⟩ := h2.ofO
  exact hr G2 hs2 s2 H2 _ _ z v u Q J2 ((hv.step S2).read J2) (hu.read J2) e fun G3 H3 S3 J3 w hw => k G3 hs2 H3 S3 J3 w hw
theorem de_bin {op : Operator} {o : D → D → Option D} (ho : OpD M X (binaryOp op) o) (ha : DB M X W a fa) (hb : DB M X W b fb) : DE M X W (.BinOp a op b pos) (bopD o fa fb) := by
  obtain ⟨r, hr, h⟩ := ho.ex
  obtain ⟨ta, pa, ha⟩ := ha.ex
  obtain ⟨tb, pb, hb⟩ := hb.ex
  exact ⟨_, pe_op hr pa pb, fun A σ H G hs own η s Q I hp => bin_run (op := binaryOp op) h ha hb I hp⟩
theorem de_cmp {op : CmpOp} {o : D → D → Option D} (ho : OpD M X (compareOp op) o) (ha : DB M X W a fa) (hb : DB M X W b fb) (hm : behindInMarks op b = false) : DE M X W (.Compare a [op] [b] pos) (bopD o fa fb) := by
  obtain ⟨r, hr, h⟩ := ho.ex
  obtain ⟨ta, pa, ha⟩ := ha.ex
  obtain ⟨tb, pb, hb⟩ := hb.ex
  exact ⟨_, pe_cmpR hr pa pb hm, fun A σ H G hs own η s Q I hp => bin_run (op := compareOp op) h ha hb I hp⟩
theorem tst_run {σ : L2.St} {H G : Hp} {hs : List Addr} {η : Env} {s : DS} {Q : Bool → Hp → Prop} {t : TE} {f : Env → DS → R D}
    (h : ∀ Q, RPost X.K M σ W G hs H (f η s) (fun d G' hs' _ H' => ∀ v, Rep X.K M G' hs' d v → Q v H') → t σ H Q)
    (hp : RPost X.K M σ W G hs H (tstD f η s) (fun b _ _ _ H' => Q b H')) : t σ H fun x H' => ∃ k, x = .bl k ∧ Q k H' := by
  refine h _ (hp.bind.mono fun x G1 hs1 s1 H1 S1 J1 h1 v hv => ?_)
  obtain ⟨b, e, k⟩ := h1.ofO
  rw [asB_some e, rep_bl] at hv
  exact ⟨b, hv, k G1 hs1 H1 (Stp.refl _ _ _ _) J1⟩
theorem dt_cmp {op : CmpOp} {o : D → D → Option D} (ho : OpD M X (compareOp op) o) (ha : DB M X W a fa) (hb : DB M X W b fb) (hm : behindInMarks op b = false) : DT M X W (.Compare a [op] [b] pos) (tstD (bopD o fa fb)) := by
  obtain ⟨r, hr, h⟩ := ho.ex
  obtain ⟨ta, pa, ha⟩ := ha.ex
  obtain ⟨tb, pb, hb⟩ := hb.ex
  exact ⟨_, pt_cmpR hr pa pb hm, fun A σ H G hs own η s Q I hp => tst_run (f := bopD o fa fb) (fun Q hp => bin_run (op := compareOp op) h ha hb I hp) hp⟩
/-- any expression that gives a bool, as a test -/
theorem dt_val {e : Expr} {f : Env → DS → R D} (h : DE M X W e f) (he : ∀ whole, isTrue e X.env whole = (do let v ← whole; standAt e.pos; holding [v] (truthy v)) := by intro _; rfl) : DT M X W e (tstD f) := by
  obtain ⟨t, p, h⟩ := h.ex
  exact ⟨_, pt_val p he, fun A σ H G hs own η s Q I hp => tst_run (fun Q hp => h A σ H G hs own η s Q I hp) hp⟩
def chD (o o' : D → D → Option D) (fa fb fc : Env → DS → R D) : Env → DS → R D := fun η s => (fa η s).bind fun x s1 => (fb η s1).bind fun y s2 => (R.ofO (o (deref s2 x) (deref s2 y)) s2).bind fun z s3 =>
  (R.ofO (asB z) s3).bind fun k s3 => if k = true then (fc η s3).bind fun w s4 => R.ofO (o' (deref s4 y) (deref s4 w)) s4 else .ok (.bl false) s3
theorem ch_run {op op' : Value → Value → Sem Value} {o o' : D → D → Option D} {r r' : R2} {ta tb tc : TE} {fc : Env → DS → R D} {A : Anc} {σ : L2.St} {H G : Hp} {hs : List Addr} {own : Nat → Addr} {η : Env} {s : DS} {Q : VK}
    (hr : OEx M X r o)
    (hr' : OEx M X r' o')
    (ha : BEx M X W ta fa)
    (hb : BEx M X W tb fb)
    (hc : BEx M X W tc fc)
    (I : Sm X.K M A σ H G hs own η s) (hp : RPost X.K M σ W G hs H (chD o o' fa fb fc η s) (fun d G' hs' _ H' => ∀ v, Rep X.K M G' hs' d v → Q v H')) : tChain r r' ta tb tc σ H Q := by
  refine ha A σ H G hs own η s _ I (hp.bind.mono fun x G1 hs1 s1 H1 S1 J1 h1 v hv => ?_)
  refine hb A σ H1 G1 hs1 own η s1 _ (I.step S1 J1) (h1.bind.mono fun y G2 hs2 s2 H2 S2 J2 h2 u hu => ?_)
  obtain ⟨z, e, k⟩ := h2.bind.ofO
  refine hr G2 hs2 s2 H2 _ _ z v u _ J2 ((hv.step S2).read J2) (hu.read J2) e fun G3 H3 S3 J3 w hw => ?_
  obtain ⟨kb, e2, k2⟩ := (k G3 hs2 H3 S3 J3).bind.ofO
  rw [asB_some e2, rep_bl] at hw
  have k3 := k2 G3 hs2 H3 (Stp.refl _ _ _ _) J3
  refine ⟨kb, hw, ?_⟩
  cases kb with
  | false =>
    rw [if_neg Bool.false_ne_true]
    rw [if_neg Bool.false_ne_true] at k3
    exact k3 G3 hs2 H3 (Stp.refl _ _ _ _) J3 _ (rep_bl.mpr rfl)
  | true =>
    rw [if_pos rfl]
    rw [if_pos rfl] at k3
    refine hc A σ H3 G3 hs2 own η s2 _ (((I.step S1 J1).step S2 J2).step S3 J3) (k3.bind.mono fun q G4 hs4 s4 H4 S4 J4 h4 w4 hw4 => ?_)
    obtain ⟨z4, e4, k4⟩ := h4.ofO
    exact hr' G4 hs4 s4 H4 _ _ z4 u w4 _ J4 (((hu.step S3).step S4).read J4) (hw4.read J4) e4 fun G5 H5 S5 J5 w hw => k4 G5 hs4 H5 S5 J5 w hw
variable {c : Expr} {fc : Env → DS → R D}
theorem de_ch {op op' : CmpOp} {o o' : D → D → Option D} (ho : OpD M X (compareOp op) o) (ho' : OpD M X (compareOp op') o') (ha : DB M X W a fa) (hb : DB M X W b fb) (hc : DB M X W c fc) (hm : lastMarks [op, op'] [b, c] = false := by with_unfolding_all rfl) :
    DE M X W (.Compare a [op, op'] [b, c] pos) (chD o o' fa fb fc) := by
  obtain ⟨r, hr, h⟩ := ho.ex
  obtain ⟨r', hr', h'⟩ := ho'.ex
  obtain ⟨ta, pa, ha⟩ := ha.ex
  obtain ⟨tb, pb, hb⟩ := hb.ex
  obtain ⟨tc, pc, hc⟩ := hc.ex
  exact ⟨_, pe_chain hr hr' pa pb pc hm, fun A σ H G hs own η s Q I hp => ch_run (op := compareOp op) (op' := compareOp op') h h' ha hb hc I hp⟩
theorem dt_ch {op op' : CmpOp} {o o' : D → D → Option D} (ho : OpD M X (compareOp op) o) (ho' : OpD M X (compareOp op') o') (ha : DB M X W a fa) (hb : DB M X W b fb) (hc : DB M X W c fc) (hm : lastMarks [op, op'] [b, c] = false := by with_unfolding_all rfl) :
    DT M X W (.Compare a [op, op'] [b, c] pos) (tstD (chD o o' fa fb fc)) := by
  obtain ⟨r, hr, h⟩ := ho.ex
  obtain ⟨r', hr', h'⟩ := ho'.ex
  obtain ⟨ta, pa, ha⟩ := ha.ex
  obtain ⟨tb, pb, hb⟩ := hb.ex
  obtain ⟨tc, pc, hc⟩ := hc.ex
  exact ⟨_, pt_chain hr hr' pa pb pc hm, fun A σ H G hs own η s Q I hp => tst_run (f := chD o o' fa fb fc) (fun Q hp => ch_run (op := compareOp op) (op' := compareOp op') h h' ha hb hc I hp) hp⟩
def andT (f g : Env → DS → R Bool) : Env → DS → R Bool := fun η s => (f η s).bind fun b s1 => if b = true then g η s1 else .ok false s1
def orT (f g : Env → DS → R Bool) : Env → DS → R Bool := fun η s => (f η s).bind fun b s1 => if b = true then .ok true s1 else g η s1
def notT (f : Env → DS → R Bool) : Env → DS → R Bool := fun η s => (f η s).bind fun b s1 => .ok (!b) s1
def ifD (c : Env → DS → R Bool) (f g : Env → DS → R D) : Env → DS → R D := fun η s => (c η s).bind fun b s1 => if b = true then f η s1 else g η s1
variable {f g : Env → DS → R Bool} {rest : List Expr}
theorem DW.t {e : Expr} (h : DW M X W e f) : DT M X W e f := by
  obtain ⟨t, p, h⟩ := h.ex
  exact ⟨t, p.pt, h⟩
theorem dw_and1 (h : DT M X W a f) : DW M X W (.BoolOp .And [a] pos) f := by
  obtain ⟨t, p, h⟩ := h.ex
  exact ⟨t, pw_and1 p, h⟩
theorem dw_or1 (h : DT M X W a f) : DW M X W (.BoolOp .Or [a] pos) f := by
  obtain ⟨t, p, h⟩ := h.ex
  exact ⟨t, pw_or1 p, h⟩
theorem dw_and (ha : DT M X W a f) (hb : DW M X W (.BoolOp .And (b :: rest) pos) g) : DW M X W (.BoolOp .And (a :: b :: rest) pos) (andT f g) := by
  obtain ⟨t, p, h⟩ := ha.ex
  obtain ⟨u, q, k⟩ := hb.ex
  refine ⟨_, pw_and p q, fun A σ H G hs own η s Q I hp => ?_⟩
  refine h A σ H G hs own η s _ I (hp.bind.mono fun x G1 hs1 s1 H1 S1 J1 h1 => ?_)
  cases x with
  | true =>
    rw [if_pos rfl] at h1 ⊢
    exact k A σ H1 G1 hs1 own η s1 _ (I.step S1 J1) h1
  | false =>
    rw [if_neg Bool.false_ne_true] at h1 ⊢
    exact h1 G1 hs1 H1 (Stp.refl _ _ _ _) J1
theorem dw_or (ha : DT M X W a f) (hb : DW M X W (.BoolOp .Or (b :: rest) pos) g) : DW M X W (.BoolOp .Or (a :: b :: rest) pos) (orT f g) := by
  obtain ⟨t, p, h⟩ := ha.ex
  obtain ⟨u, q, k⟩ := hb.ex
  refine ⟨_, pw_or p q, fun A σ H G hs own η s Q I hp => ?_⟩
  refine h A σ H G hs own η s _ I (hp.bind.mono fun x G1 hs1 s1 H1 S1 J1 h1 => ?_)
  cases x with
  | false =>
    rw [if_neg Bool.false_ne_true] at h1 ⊢
    exact k A σ H1 G1 hs1 own η s1 _ (I.step S1 J1) h1
  | true =>
    rw [if_pos rfl] at h1 ⊢
    exact h1 G1 hs1 H1 (Stp.refl _ _ _ _) J1
theorem dt_not (ha : DT M X W a f) : DT M X W (.UnaryOp .Not a pos) (notT f) := by
  obtain ⟨t, p, h⟩ := ha.ex
  refine ⟨_, pt_not p, fun A σ H G hs own η s Q I hp => ?_⟩
  exact h A σ H G hs own η s _ I (hp.bind.mono fun x G1 hs1 s1 H1 S1 J1 h1 => h1 G1 hs1 H1 (Stp.refl _ _ _ _) J1)
/-- and, or, not as values (bools) -/
def andD (fa fb : Env → DS → R D) : Env → DS → R D := fun η s => (tstD fa η s).bind fun b s1 => if b = true then fb η s1 else .ok (.bl false) s1
def orD (fa fb : Env → DS → R D) : Env → DS → R D := fun η s => (tstD fa η s).bind fun b s1 => if b = true then .ok (.bl true) s1 else fb η s1
def notD (fa : Env → DS → R D) : Env → DS → R D := fun η s => (tstD fa η s).bind fun b s1 => .ok (.bl (!b)) s1
theorem de_not (ha : DE M X W a fa) : DE M X W (.UnaryOp .Not a pos) (notD fa) := by
  obtain ⟨t, p, h⟩ := ha.ex
  refine ⟨_, pe_not p, fun A σ H G hs own η s Q I hp => ?_⟩
  refine h A σ H G hs own η s _ I (hp.bind.bind.mono fun x G1 hs1 s1 H1 S1 J1 h1 v hv => ?_)
  obtain ⟨b, e, k1⟩ := h1.ofO
  rw [asB_some e, rep_bl] at hv
  exact ⟨b, hv, k1 G1 hs1 H1 (Stp.refl _ _ _ _) J1 G1 hs1 H1 (Stp.refl _ _ _ _) J1 _ (rep_bl.mpr rfl)⟩
end
end DL
set_option Elab.async false
set_option linter.all false
set_option maxRecDepth 100000
set_option maxHeartbeats 2000000
namespace DL
open PySem PySem.Spec PyProof.Rows L2
theorem line_ : (sizeLine : Nat) = 16777216 := sizeLine_eq
def opAdd : D → D → Option D
  | .int a, .int b => some (.int (a + b))
  | .str a, .str b => if a.length + b.length ≤ 16777216 then some (.str (a ++ b)) else none
  | .lst a, .lst b => if a.length + b.length ≤ 16777216 then some (.lst (a ++ b)) else none
  | .tup a, .tup b => if a.length + b.length ≤ 16777216 then some (.tup (a ++ b)) else none
  | _, _ => none
def opSub : D → D → Option D
  | .int a, .int b => some (.int (a - b))
  | _, _ => none
/-- decided by no reckoning: the kernel does not look in -/
noncomputable def cl (p : Prop) : Bool := @decide p (Classical.propDecidable p)
theorem cl_iff {p : Prop} : cl p = true ↔ p := by
  unfold cl
  exact @decide_eq_true_iff p (Classical.propDecidable p)
theorem cl_yes {p : Prop} (h : p) : cl p = true := cl_iff.mpr h
noncomputable def small64 (a : Int) : Bool := cl (-18446744073709551616 < a ∧ a < 18446744073709551616)
noncomputable def opMul : D → D → Option D
  | .int a, .int b => if (small64 a || small64 b) = true then some (.int (a * b)) else none
  | .lst a, .int b => if cl (-1000000 ≤ b ∧ b ≤ 1000000 ∧ a.length * b.toNat ≤ 16777216) = true then some (.lst (List.replicate b.toNat a).flatten) else none
  | _, _ => none
noncomputable def opDiv : D → D → Option D
  | .int a, .int b => if cl (0 < b ∧ b < 18446744073709551616) = true then some (.int (a / b)) else none
  | _, _ => none
def opMod : D → D → Option D
  | .int a, .int b => if 0 < b then some (.int (a % b)) else none
  | _, _ => none
noncomputable def opPow : D → D → Option D
  | .int a, .int b => if cl (0 ≤ b ∧ b ≤ 1000 ∧ -1000000 ≤ a ∧ a ≤ 1000000) = true then some (.int (a ^ b.toNat)) else none
  | _, _ => none
def opNeg : D → Option D
  | .int a => some (.int (-a))
  | _ => none
def strLt (a b : Str) : Bool := decide (a.cps.toList < b.cps.toList)
def opLt : D → D → Option D
  | .int a, .int b => some (.bl (decide (a < b)))
  | .str a, .str b => some (.bl (strLt a b))
  | _, _ => none
def opLe : D → D → Option D
  | .int a, .int b => some (.bl (decide (a ≤ b)))
  | _, _ => none
def opGt : D → D → Option D
  | .int a, .int b => some (.bl (decide (b < a)))
  | .str a, .str b => some (.bl (strLt b a))
  | _, _ => none
def opGe : D → D → Option D
  | .int a, .int b => some (.bl (decide (b ≤ a)))
  | _, _ => none
section
variable {M : Mp} {X : Cx}
theorem Stp.new {K : PySem.W.Frag} {G H : Hp} {hs : List Addr} {s : DS} {p : Addr} {o : HO} {k : Hp → Hp → Prop} (J : Sim K M G hs s H) (h : H p = none) (no : ∀ ps, o ≠ .tbl ps) (q : ∀ G' H', Stp M G hs H G' hs H' → Sim K M G' hs s H' → k G' H') : k (upd G p o) (upd H p o) :=
  q _ _ (J.laid h no).1 (J.laid h no).2
theorem repL_up {K : PySem.W.Frag} {G : Hp} {hs : List Addr} {p : Addr} {o : HO} {ds : List D} {vs : List V} (g : G p = none) (r : RepL K M G hs ds vs) : RepL K M (upd G p o) hs ds vs := r.mono (same_upd g) (Pre.refl _)
theorem rep_newL {K : PySem.W.Frag} {G : Hp} {hs : List Addr} {p : Addr} {ds : List D} {vs : List V} (g : G p = none) (r : RepL K M G hs ds vs) : Rep K M (upd G p (.lst vs)) hs (.lst ds) (.ref p) := rep_lst.mpr ⟨p, vs, rfl, upd_same, repL_up g r⟩
theorem rep_newT {K : PySem.W.Frag} {G : Hp} {hs : List Addr} {p : Addr} {ds : List D} {vs : List V} (g : G p = none) (r : RepL K M G hs ds vs) : Rep K M (upd G p (.tup vs)) hs (.tup ds) (.ref p) := rep_tupR upd_same (repL_up g r)
theorem od_add : OpD M X (binaryOp .Add) opAdd := by
  refine ⟨_, (op_add.or op_add_str).or (op_cat.or op_catA), fun G hs s H x y z v u Q J hx hy e k => ?_⟩
  unfold opAdd at e
  split at e
  · cases e
    exact .inl (.inl ⟨_, _, hx.int, hy.int, k G H (Stp.refl _ _ _ _) J _ (rep_int.mpr rfl)⟩)
  · rename_i a b
    split at e
    · rename_i hl
      cases e
      exact .inl (.inr ⟨_, _, hx.str, hy.str, by rw [line_]; exact hl, k G H (Stp.refl _ _ _ _) J _ (rep_str.mpr rfl)⟩)
    · cases e
  · rename_i a b
    split at e
    · rename_i hl
      cases e
      obtain ⟨l, vs, rfl, h1, r1⟩ := hx.lst J
      obtain ⟨l', vs', rfl, h1', r1'⟩ := hy.lst J
      refine .inr (.inl ⟨l, l', vs, vs', rfl, rfl, h1, h1', by rw [line_, ← r1.length, ← r1'.length]; exact hl, fun p hp => ?_⟩)
      exact k _ _ (J.laid hp).1 (J.laid hp).2 _ (rep_newL (J.free hp).1 (r1.append r1'))
    · cases e
  · rename_i a b
    split at e
    · rename_i hl
      cases e
      obtain ⟨l, vs, rfl, h1, r1⟩ := hx.tup J
      obtain ⟨l', vs', rfl, h1', r1'⟩ := hy.tup J
      refine .inr (.inr ⟨l, l', vs, vs', rfl, rfl, h1, h1', by rw [line_, ← r1.length, ← r1'.length]; exact hl, fun z => ?_, fun _ z => ?_, fun _ _ p hp => ?_⟩)
      · have ez : a = [] := by
          have := r1.length
          rw [z] at this
          exact List.length_eq_zero_iff.mp this
        subst ez
        have hy' : Rep X.K M G hs (.tup b) (.ref l') := by
          rcases hy with hy | ⟨_, _, hy⟩
          · exact hy
          · exact hy.elim
        exact k G H (Stp.refl _ _ _ _) J _ hy'
      · have ez : b = [] := by
          have := r1'.length
          rw [z] at this
          exact List.length_eq_zero_iff.mp this
        subst ez
        have hx' : Rep X.K M G hs (.tup a) (.ref l) := by
          rcases hx with hx | ⟨_, _, hx⟩
          · exact hx
          · exact hx.elim
        rw [List.append_nil] at k
        exact k G H (Stp.refl _ _ _ _) J _ hx'
      · exact k _ _ (J.laid hp).1 (J.laid hp).2 _ (rep_newT (J.free hp).1 (r1.append r1'))
    · cases e
  · cases e
theorem od_sub : OpD M X (binaryOp .Sub) opSub := by
  refine ⟨_, op_sub, fun G hs s H x y z v u Q J hx hy e k => ?_⟩
  unfold opSub at e
  split at e
  · cases e
    exact ⟨_, _, hx.int, hy.int, k G H (Stp.refl _ _ _ _) J _ (rep_int.mpr rfl)⟩
  · cases e
theorem od_mul : OpD M X (binaryOp .Mult) opMul := by
  refine ⟨_, op_mul.or op_rep, fun G hs s H x y z v u Q J hx hy e k => ?_⟩
  unfold opMul at e
  split at e
  · rename_i a b
    split at e
    · rename_i hl
      cases e
      refine .inl ⟨_, _, hx.int, hy.int, ?_, k G H (Stp.refl _ _ _ _) J _ (rep_int.mpr rfl)⟩
      have p : (2 : Int) ^ 64 = 18446744073709551616 := by decide
      unfold CMul
      rw [p]
      simpa [small64, Bool.or_eq_true, cl_iff] using hl
    · cases e
  · rename_i a b
    split at e
    · rename_i hl
      have hl := cl_iff.mp hl
      cases e
      obtain ⟨l, vs, rfl, h1, r1⟩ := hx.lst J
      refine .inr ⟨l, b, vs, rfl, hy.int, h1, by omega, by omega, by rw [line_, ← r1.length]; exact hl.2.2, fun p hp => ?_⟩
      refine k _ _ (J.laid hp).1 (J.laid hp).2 _ (rep_newL (J.free hp).1 ?_)
      have rr : ∀ n : Nat, RepL X.K M G hs (List.replicate n a).flatten (List.replicate n vs).flatten := fun n => by
        induction n with
        | zero => exact repL_nil.mpr rfl
        | succ n ih =>
          rw [List.replicate_succ, List.replicate_succ, List.flatten_cons, List.flatten_cons]
          exact r1.append ih
      exact rr _
    · cases e
  · cases e
theorem od_div : OpD M X (binaryOp .FloorDiv) opDiv := by
  refine ⟨_, op_fdivW, fun G hs s H x y z v u Q J hx hy e k => ?_⟩
  unfold opDiv at e
  split at e
  · rename_i a b
    split at e
    · rename_i hl
      have hl := cl_iff.mp hl
      cases e
      refine ⟨_, _, hx.int, hy.int, wide_div (b := 64) hl.1 ?_ (by decide) (by decide), k G H (Stp.refl _ _ _ _) J _ (rep_int.mpr rfl)⟩
      have p : (2 : Nat) ^ 64 = 18446744073709551616 := by decide
      rw [p]
      omega
    · cases e
  · cases e
theorem od_mod : OpD M X (binaryOp .Mod) opMod := by
  refine ⟨_, op_mod, fun G hs s H x y z v u Q J hx hy e k => ?_⟩
  unfold opMod at e
  split at e
  · split at e
    · rename_i hl
      cases e
      exact ⟨_, _, hx.int, hy.int, hl, k G H (Stp.refl _ _ _ _) J _ (rep_int.mpr rfl)⟩
    · cases e
  · cases e
theorem od_pow : OpD M X (binaryOp .Pow) opPow := by
  refine ⟨_, op_pow, fun G hs s H x y z v u Q J hx hy e k => ?_⟩
  unfold opPow at e
  split at e
  · split at e
    · rename_i hl
      have hl := cl_iff.mp hl
      cases e
      refine ⟨_, _, hx.int, hy.int, ⟨hl.1, by omega, ?_⟩, k G H (Stp.refl _ _ _ _) J _ (rep_int.mpr rfl)⟩
      have p : (2 : Nat) ^ 64 = 18446744073709551616 := by decide
      rw [p]
      omega
    · cases e
  · cases e
theorem od_lt : OpD M X (compareOp .Lt) opLt := by
  refine ⟨_, op_lt.or op_lt_str, fun G hs s H x y z v u Q J hx hy e k => ?_⟩
  unfold opLt at e
  split at e
  · cases e
    exact .inl ⟨_, _, hx.int, hy.int, k G H (Stp.refl _ _ _ _) J _ (rep_bl.mpr rfl)⟩
  · cases e
    exact .inr ⟨_, _, hx.str, hy.str, k G H (Stp.refl _ _ _ _) J _ (rep_bl.mpr rfl)⟩
  · cases e
theorem od_le : OpD M X (compareOp .LtE) opLe := by
  refine ⟨_, op_le, fun G hs s H x y z v u Q J hx hy e k => ?_⟩
  unfold opLe at e
  split at e
  · cases e
    exact ⟨_, _, hx.int, hy.int, k G H (Stp.refl _ _ _ _) J _ (rep_bl.mpr rfl)⟩
  · cases e
theorem od_gt : OpD M X (compareOp .Gt) opGt := by
  refine ⟨_, op_gt.or op_gt_str, fun G hs s H x y z v u Q J hx hy e k => ?_⟩
  unfold opGt at e
  split at e
  · cases e
    exact .inl ⟨_, _, hx.int, hy.int, k G H (Stp.refl _ _ _ _) J _ (rep_bl.mpr rfl)⟩
  · cases e
    exact .inr ⟨_, _, hx.str, hy.str, k G H (Stp.refl _ _ _ _) J _ (rep_bl.mpr rfl)⟩
  · cases e
theorem od_ge : OpD M X (compareOp .GtE) opGe := by
  refine ⟨_, op_ge, fun G hs s H x y z v u Q J hx hy e k => ?_⟩
  unfold opGe at e
  split at e
  · cases e
    exact ⟨_, _, hx.int, hy.int, k G H (Stp.refl _ _ _ _) J _ (rep_bl.mpr rfl)⟩
  · cases e
mutual
def dOk : D → Bool
  | .non => true
  | .bl _ => true
  | .int _ => true
  | .str x => PyData.strOk x
  | .tup l => dOkL l
  | .lst l => dOkL l
  | .dic _ => false
  | .obj _ _ => false
  | .han _ => false
  | .scr _ => false
  | .tup0 _ => false
  | .dit _ => false
  | .clo _ _ => false
def dOkL : List D → Bool
  | [] => true
  | d :: l => dOk d && dOkL l
end
mutual
def dDep : D → Nat
  | .tup l => dDepL l + 1
  | .lst l => dDepL l + 1
  | .non => 0
  | .bl _ => 0
  | .int _ => 0
  | .str _ => 0
  | .dic _ => 0
  | .obj _ _ => 0
  | .han _ => 0
  | .scr _ => 0
  | .tup0 _ => 0
  | .dit _ => 0
  | .clo _ _ => 0
def dDepL : List D → Nat
  | [] => 0
  | d :: l => max (dDep d) (dDepL l)
end
mutual
def toPD : D → PyData
  | .non => .none
  | .bl b => .bool b
  | .int i => .int i
  | .str x => .str x
  | .tup l => .tuple (toPDL l)
  | .lst l => .list (toPDL l)
  | .dic _ => .none
  | .obj _ _ => .none
  | .han _ => .none
  | .scr _ => .none
  | .tup0 _ => .none
  | .dit _ => .none
  | .clo _ _ => .none
def toPDL : List D → List PyData
  | [] => []
  | d :: l => toPD d :: toPDL l
end
mutual
def eqB : D → D → Bool
  | .non, .non => true
  | .bl a, .bl b => a == b
  | .bl a, .int j => (if a then 1 else 0) == j
  | .int i, .bl b => i == (if b then 1 else 0)
  | .int i, .int j => i == j
  | .str x, .str y => x == y
  | .lst xs, .lst ys => eqBL xs ys
  | .tup xs, .tup ys => eqBL xs ys
  | _, _ => false
def eqBL : List D → List D → Bool
  | [], [] => true
  | x :: xs, y :: ys => eqB x y && eqBL xs ys
  | _, _ => false
end
mutual
theorem eqv_toPD : ∀ (d e : D), dOk d = true → dOk e = true → PyData.eqv (toPD d) (toPD e) = eqB d e
  | .non, e, _, he => by cases e <;> simp_all [toPD, PyData.eqv, eqB, dOk]
  | .bl b, e, _, he => by cases e <;> simp_all [toPD, PyData.eqv, eqB, dOk]
  | .int i, e, _, he => by cases e <;> simp_all [toPD, PyData.eqv, eqB, dOk]
  | .str x, e, _, he => by cases e <;> simp_all [toPD, PyData.eqv, eqB, dOk]
  | .tup l, e, hd, he => by
    cases e with
    | tup l' =>
      have h1 : dOkL l = true := by simpa [dOk] using hd
      have h2 : dOkL l' = true := by simpa [dOk] using he
      simp only [toPD, PyData.eqv, eqB]
      exact eqv_toPDL l l' h1 h2
    | _ => simp_all [toPD, PyData.eqv, eqB, dOk]
  | .lst l, e, hd, he => by
    cases e with
    | lst l' =>
      have h1 : dOkL l = true := by simpa [dOk] using hd
      have h2 : dOkL l' = true := by simpa [dOk] using he
      simp only [toPD, PyData.eqv, eqB]
      exact eqv_toPDL l l' h1 h2
    | _ => simp_all [toPD, PyData.eqv, eqB, dOk]
  | .dic _, _, h, _ => by simp [dOk] at h
  | .obj _ _, _, h, _ => by simp [dOk] at h
  | .han _, _, h, _ => by simp [dOk] at h
  | .scr _, _, h, _ => by simp [dOk] at h
  | .tup0 _, _, h, _ => by simp [dOk] at h
  | .dit _, _, h, _ => by simp [dOk] at h
  | .clo _ _, _, h, _ => by simp [dOk] at h
theorem eqv_toPDL : ∀ (d e : List D), dOkL d = true → dOkL e = true → PyData.eqvAll (toPDL d) (toPDL e) = eqBL d e
  | [], e, _, _ => by cases e <;> simp [toPDL, PyData.eqvAll, eqBL]
  | d :: l, [], _, _ => by simp [toPDL, PyData.eqvAll, eqBL]
  | d :: l, e :: l', h, h' => by
    have h1 : dOk d = true ∧ dOkL l = true := by simpa [dOkL] using h
    have h2 : dOk e = true ∧ dOkL l' = true := by simpa [dOkL] using h'
    simp only [toPDL, PyData.eqvAll, eqBL]
    rw [eqv_toPD d e h1.1 h2.1, eqv_toPDL l l' h1.2 h2.2]
end
mutual
theorem lay_toPD : ∀ (d : D), dOk d = true → (toPD d).canLay0 = true ∧ (toPD d).depth = dDep d
  | .non, _ => by simp [toPD, PyData.canLay0, PyData.depth, dDep]
  | .bl b, _ => by simp [toPD, PyData.canLay0, PyData.depth, dDep]
  | .int i, _ => by simp [toPD, PyData.canLay0, PyData.depth, dDep]
  | .str x, h => by
    have h1 : PyData.strOk x = true := by simpa [dOk] using h
    simp [toPD, PyData.canLay0, PyData.depth, dDep, h1]
  | .tup l, h => by
    have h1 : dOkL l = true := by simpa [dOk] using h
    obtain ⟨a, b⟩ := lay_toPDL l h1
    simp [toPD, PyData.canLay0, PyData.depth, dDep, a, b]
  | .lst l, h => by
    have h1 : dOkL l = true := by simpa [dOk] using h
    obtain ⟨a, b⟩ := lay_toPDL l h1
    simp [toPD, PyData.canLay0, PyData.depth, dDep, a, b]
  | .dic _, h => by simp [dOk] at h
  | .obj _ _, h => by simp [dOk] at h
  | .han _, h => by simp [dOk] at h
  | .scr _, h => by simp [dOk] at h
  | .tup0 _, h => by simp [dOk] at h
  | .dit _, h => by simp [dOk] at h
  | .clo _ _, h => by simp [dOk] at h
theorem lay_toPDL : ∀ (d : List D), dOkL d = true → PyData.canLayAll0 (toPDL d) = true ∧ PyData.depthAll (toPDL d) = dDepL d
  | [], _ => by simp [toPDL, PyData.canLayAll0, PyData.depthAll, dDepL]
  | d :: l, h => by
    have h1 : dOk d = true ∧ dOkL l = true := by simpa [dOkL] using h
    obtain ⟨a, b⟩ := lay_toPD d h1.1
    obtain ⟨a', b'⟩ := lay_toPDL l h1.2
    simp [toPDL, PyData.canLayAll0, PyData.depthAll, dDepL, a, b, a', b']
end
theorem shaped_toPD {d : D} (h : dOk d = true) (h2 : dDep d ≤ 60) : SeqAt.shaped (toPD d) = true := by
  obtain ⟨a, b⟩ := lay_toPD d h
  unfold SeqAt.shaped
  rw [a, b]
  simp
  omega
mutual
theorem dp_of {K : PySem.W.Frag} {G H : Hp} {hs : List Addr} (e : Same G H) : ∀ (d : D) (v : V), dOk d = true → Rep K M G hs d v → Dp K H v (toPD d)
  | .non, v, _, h => by rw [rep_non] at h; subst h; simp only [toPD]; exact .non
  | .bl b, v, _, h => by rw [rep_bl] at h; subst h; simp only [toPD]; exact .bl b
  | .int i, v, _, h => by rw [rep_int] at h; subst h; simp only [toPD]; exact .int i
  | .str x, v, _, h => by rw [rep_str] at h; subst h; simp only [toPD]; exact .str x
  | .tup l, v, h0, h => by
    obtain ⟨a, vs, rfl, h2, h3⟩ := rep_tup h
    simp only [toPD]
    exact .tup (same_seqT e h2) (dp_ofL e l vs (by simpa [dOk] using h0) h3)
  | .lst l, v, h0, h => by
    obtain ⟨a, vs, rfl, h2, h3⟩ := rep_lst.mp h
    simp only [toPD]
    exact .lst (SqL.of (e _ _ h2)) (dp_ofL e l vs (by simpa [dOk] using h0) h3)
  | .dic _, _, h, _ => by simp [dOk] at h
  | .obj _ _, _, h, _ => by simp [dOk] at h
  | .han _, _, h, _ => by simp [dOk] at h
  | .scr _, _, h, _ => by simp [dOk] at h
  | .tup0 _, _, h, _ => by simp [dOk] at h
  | .dit _, _, h, _ => by simp [dOk] at h
  | .clo _ _, _, h, _ => by simp [dOk] at h
theorem dp_ofL {K : PySem.W.Frag} {G H : Hp} {hs : List Addr} (e : Same G H) : ∀ (d : List D) (v : List V), dOkL d = true → RepL K M G hs d v → DpAll K H v (toPDL d)
  | [], v, _, h => by rw [repL_nil] at h; subst h; simp only [toPDL]; exact .nil
  | d :: l, v, h0, h => by
    have h1 : dOk d = true ∧ dOkL l = true := by simpa [dOkL] using h0
    rw [repL_cons] at h
    obtain ⟨w, vr, rfl, h2, h3⟩ := h
    simp only [toPDL]
    exact .cons (dp_of e d w h1.1 h2) (dp_ofL e l vr h1.2 h3)
end
theorem RV.dp {K : PySem.W.Frag} {G H : Hp} {hs : List Addr} {s : DS} (J : Sim K M G hs s H) {d : D} {v : V} (h0 : dOk d = true) (h : RV K M G hs H d v) : Dp K H v (toPD d) := by
  cases d with
  | lst l =>
    obtain ⟨a, vs, rfl, h2, h3⟩ := h.lst J
    simp only [toPD]
    exact .lst (SqL.of h2) (dp_ofL J.sub l vs (by simpa [dOk] using h0) h3)
  | dic _ => simp [dOk] at h0
  | obj _ _ => simp [dOk] at h0
  | han _ => simp [dOk] at h0
  | scr _ => simp [dOk] at h0
  | tup0 _ => simp [dOk] at h0
  | dit _ => simp [dOk] at h0
  | clo _ _ => simp [dOk] at h0
  | _ =>
    rcases h with h | ⟨_, _, h⟩
    · exact dp_of J.sub _ v h0 h
    · exact h.elim
def eqOk (x y : D) : Bool := dOk x && dOk y && decide (dDep x ≤ 60) && decide (dDep y ≤ 60)
/-- a row against a text -/
def seqStr : D → D → Bool
  | .tup _, .str _ => true
  | .lst _, .str _ => true
  | .str _, .tup _ => true
  | .str _, .lst _ => true
  | _, _ => false
def opEq (x y : D) : Option D := if eqOk x y = true then some (.bl (eqB x y)) else if seqStr x y = true then some (.bl false) else none
def opNe (x y : D) : Option D := if eqOk x y = true then some (.bl (!eqB x y)) else if seqStr x y = true then some (.bl true) else none
def rSeqStr (K : PySem.W.Frag) (r : Bool) : R2 := fun x y H Q => (∃ a vs z, ((x = .ref a ∧ y = .str z) ∨ (x = .str z ∧ y = .ref a)) ∧ (SqL K H a vs ∨ SqT K H a vs)) ∧ Q (.bl r) H
theorem op_eqSS (hu : X.A.units < cLine) : OpR X (compareOp .Eq) (rSeqStr X.K false) := by
  intro pins s σ H x y v u Q I rx ry h
  obtain ⟨⟨a, vs, z, h, k⟩, q⟩ := h
  have done : EP X pins σ Q (.bool false) s := ⟨.bl false, H, I, rfl, q⟩
  rcases h with ⟨rfl, rfl⟩ | ⟨rfl, rfl⟩
  · cases (show v = Value.ref a from rx)
    obtain ⟨t, rfl⟩ := ry
    rcases k with k | k
    · obtain ⟨its, _, p, _⟩ := I.list k
      exact SeqAt.RcAt.list_str _ _ p.isList hu _ _ _ _ done
    · obtain ⟨its, _, p, _⟩ := I.tuple k
      exact SeqAt.RcAt.tuple_str _ _ p hu _ _ _ _ done
  · cases (show u = Value.ref a from ry)
    obtain ⟨t, rfl⟩ := rx
    rcases k with k | k
    · obtain ⟨its, _, p, _⟩ := I.list k
      exact SeqAt.RcAt.str_list _ _ p.isList hu _ _ _ _ done
    · obtain ⟨its, _, p, _⟩ := I.tuple k
      exact SeqAt.RcAt.str_tuple _ _ p hu _ _ _ _ done
theorem op_neSS (hu : X.A.units < cLine) : OpR X (compareOp .NotEq) (rSeqStr X.K true) := by
  intro pins s σ H x y v u Q I rx ry h
  obtain ⟨⟨a, vs, z, h, k⟩, q⟩ := h
  have done : EP X pins σ Q (.bool true) s := ⟨.bl true, H, I, rfl, q⟩
  rcases h with ⟨rfl, rfl⟩ | ⟨rfl, rfl⟩
  · cases (show v = Value.ref a from rx)
    obtain ⟨t, rfl⟩ := ry
    rcases k with k | k
    · obtain ⟨its, _, p, _⟩ := I.list k
      exact SeqAt.RcNeAt.list_str _ _ p.isList hu _ _ _ _ done
    · obtain ⟨its, _, p, _⟩ := I.tuple k
      exact SeqAt.RcNeAt.tuple_str _ _ p hu _ _ _ _ done
  · cases (show u = Value.ref a from ry)
    obtain ⟨t, rfl⟩ := rx
    rcases k with k | k
    · obtain ⟨its, _, p, _⟩ := I.list k
      exact SeqAt.RcNeAt.str_list _ _ p.isList hu _ _ _ _ done
    · obtain ⟨its, _, p, _⟩ := I.tuple k
      exact SeqAt.RcNeAt.str_tuple _ _ p hu _ _ _ _ done
theorem seqStr_run {G H : Hp} {hs : List Addr} {s : DS} {x y : D} {v u : V} {r : Bool} {Q : VK} (J : Sim X.K M G hs s H) (hx : RV X.K M G hs H x v) (hy : RV X.K M G hs H y u) (h : seqStr x y = true) (q : Q (.bl r) H) : rSeqStr X.K r v u H Q := by
  refine ⟨?_, q⟩
  cases x <;> cases y <;> first | exact absurd h Bool.false_ne_true | skip
  · cases hx.str
    obtain ⟨a, vs, rfl, h1, _⟩ := hy.tup J
    exact ⟨a, vs, _, .inr ⟨rfl, rfl⟩, .inr h1⟩
  · cases hx.str
    obtain ⟨a, vs, rfl, h1, _⟩ := hy.lst J
    exact ⟨a, vs, _, .inr ⟨rfl, rfl⟩, .inl (.inl (.inl h1))⟩
  · cases hy.str
    obtain ⟨a, vs, rfl, h1, _⟩ := hx.tup J
    exact ⟨a, vs, _, .inl ⟨rfl, rfl⟩, .inr h1⟩
  · cases hy.str
    obtain ⟨a, vs, rfl, h1, _⟩ := hx.lst J
    exact ⟨a, vs, _, .inl ⟨rfl, rfl⟩, .inl (.inl (.inl h1))⟩
theorem eqOk_of {x y : D} (h : eqOk x y = true) : dOk x = true ∧ dOk y = true ∧ dDep x ≤ 60 ∧ dDep y ≤ 60 := by
  unfold eqOk at h
  simp only [Bool.and_eq_true, decide_eq_true_eq] at h
  exact ⟨h.1.1.1, h.1.1.2, h.1.2, h.2⟩
theorem od_eq (hu : X.A.units + 64 < cLine) : OpD M X (compareOp .Eq) opEq := by
  refine ⟨_, (op_eqD hu).or (op_eqSS (by omega)), fun G hs s H x y z v u Q J hx hy e k => ?_⟩
  unfold opEq at e
  split at e
  · rename_i h
    cases e
    obtain ⟨h1, h2, h3, h4⟩ := eqOk_of h
    refine .inl ⟨_, _, hx.dp J h1, hy.dp J h2, shaped_toPD h1 h3, shaped_toPD h2 h4, ?_⟩
    rw [eqv_toPD x y h1 h2]
    exact k G H (Stp.refl _ _ _ _) J _ (rep_bl.mpr rfl)
  · split at e
    · rename_i h
      cases e
      exact .inr (seqStr_run J hx hy h (k G H (Stp.refl _ _ _ _) J _ (rep_bl.mpr rfl)))
    · cases e
theorem od_ne (hu : X.A.units + 64 < cLine) : OpD M X (compareOp .NotEq) opNe := by
  refine ⟨_, (op_neD hu).or (op_neSS (by omega)), fun G hs s H x y z v u Q J hx hy e k => ?_⟩
  unfold opNe at e
  split at e
  · rename_i h
    cases e
    obtain ⟨h1, h2, h3, h4⟩ := eqOk_of h
    refine .inl ⟨_, _, hx.dp J h1, hy.dp J h2, shaped_toPD h1 h3, shaped_toPD h2 h4, ?_⟩
    rw [eqv_toPD x y h1 h2]
    exact k G H (Stp.refl _ _ _ _) J _ (rep_bl.mpr rfl)
  · split at e
    · rename_i h
      cases e
      exact .inr (seqStr_run J hx hy h (k G H (Stp.refl _ _ _ _) J _ (rep_bl.mpr rfl)))
    · cases e
end
end DL
set_option Elab.async false
set_option linter.all false
set_option maxRecDepth 100000
set_option maxHeartbeats 2000000
namespace DL
open PySem PySem.Spec PyProof.Rows L2
def nilA : Env → DS → R (List D) := fun _ s => .ok [] s
def consA (f : Env → DS → R D) (g : Env → DS → R (List D)) : Env → DS → R (List D) := fun η s => (f η s).bind fun d s1 => (g η s1).bind fun ds s2 => .ok (d :: ds) s2
section
variable {M : Mp} {X : Cx} {W : WX} {e a b : Expr} {es : List Expr} {f fa fb : Env → DS → R D} {g : Env → DS → R (List D)} {pos : Pos}
theorem da_nil : DA M X W [] nilA := ⟨_, pa_nil, fun A σ H G hs own η s Q I r => r G hs H (Stp.refl _ _ _ _) I.sim _ (repL_nil.mpr rfl)⟩
theorem da_cons (ha : DE M X W e f) (hr : DA M X W es g) (hs : starEach (e :: es) X.env = (false, eval e X.env) :: starEach es X.env := by rfl) : DA M X W (e :: es) (consA f g) := by
  obtain ⟨t, p, h⟩ := ha.ex
  obtain ⟨u, q, k⟩ := hr.ex
  refine ⟨_, pa_cons p q hs, fun A σ H G hs own η s Q I hp => ?_⟩
  refine h A σ H G hs own η s _ I (hp.bind.mono fun x G1 hs1 s1 H1 S1 J1 h1 v hv => ?_)
  refine k A σ H1 G1 hs1 own η s1 _ (I.step S1 J1) (h1.bind.mono fun xs G2 hs2 s2 H2 S2 J2 h2 vs hvs => ?_)
  exact h2 G2 hs2 H2 (Stp.refl _ _ _ _) J2 _ (repL_cons.mpr ⟨v, vs, rfl, hv.mono S2.gg S2.hp, hvs⟩)
theorem dab_nil : DAB M X W [] nilA := ⟨_, pa_nil, fun A σ H G hs own η s Q I r => r G hs H (Stp.refl _ _ _ _) I.sim _ Paired.nil⟩
theorem BVL.step {K : PySem.W.Frag} {G G' H H' : Hp} {hs hs' : List Addr} {ds : List D} {vs : List V} (S : Stp M G hs H G' hs' H') (h : BVL K M G hs H ds vs) : BVL K M G' hs' H' ds vs := Paired.mapP h fun _ _ z => z.step S
theorem dab_cons (ha : DB M X W e f) (hr : DAB M X W es g) (hs : starEach (e :: es) X.env = (false, eval e X.env) :: starEach es X.env := by rfl) : DAB M X W (e :: es) (consA f g) := by
  obtain ⟨t, p, h⟩ := ha.ex
  obtain ⟨u, q, k⟩ := hr.ex
  refine ⟨_, pa_cons p q hs, fun A σ H G hs own η s Q I hp => ?_⟩
  refine h A σ H G hs own η s _ I (hp.bind.mono fun x G1 hs1 s1 H1 S1 J1 h1 v hv => ?_)
  refine k A σ H1 G1 hs1 own η s1 _ (I.step S1 J1) (h1.bind.mono fun xs G2 hs2 s2 H2 S2 J2 h2 vs hvs => ?_)
  exact h2 G2 hs2 H2 (Stp.refl _ _ _ _) J2 _ (Paired.cons (hv.step S2) hvs)
def tupD (g : Env → DS → R (List D)) : Env → DS → R D := fun η s => (g η s).bind fun ds s1 => if ds.length ≤ 16777216 then .ok (.tup ds) s1 else .bad
def lstD (g : Env → DS → R (List D)) : Env → DS → R D := fun η s => (g η s).bind fun ds s1 => if ds.length ≤ 16777216 then .ok (.lst ds) s1 else .bad
theorem de_tup {x1} (h : DA M X W es g) : DE M X W (.Tuple es x1 pos) (tupD g) := by
  obtain ⟨t, p, h⟩ := h.ex
  refine ⟨_, pe_tup p, fun A σ H G hs own η s Q I hp => ?_⟩
  refine h A σ H G hs own η s _ I (hp.bind.mono fun ds G1 hs1 s1 H1 S1 J1 h1 vs hvs => ?_)
  split at h1
  · rename_i hl
    refine ⟨by rw [line_, ← hvs.length]; exact hl, fun p hp => ?_⟩
    exact h1 _ _ _ (J1.laid hp).1 (J1.laid hp).2 _ (rep_newT (J1.free hp).1 hvs)
  · exact h1.elim
theorem de_lst (h : DA M X W es g) : DE M X W (.List es pos) (lstD g) := by
  obtain ⟨t, p, h⟩ := h.ex
  refine ⟨_, pe_lst p, fun A σ H G hs own η s Q I hp => ?_⟩
  refine h A σ H G hs own η s _ I (hp.bind.mono fun ds G1 hs1 s1 H1 S1 J1 h1 vs hvs => ?_)
  split at h1
  · rename_i hl
    refine ⟨by rw [line_, ← hvs.length]; exact hl, fun p hp => ?_⟩
    exact h1 _ _ _ (J1.laid hp).1 (J1.laid hp).2 _ (rep_newL (J1.free hp).1 hvs)
  · exact h1.elim
def opIx : D → D → Option D
  | .lst ds, .int i => atI ds i
  | .tup ds, .int i => atI ds i
  | _, _ => none
theorem RepL.at {K : PySem.W.Frag} {G : Hp} {hs : List Addr} {ds : List D} {vs : List V} {i : Int} {d : D} (r : RepL K M G hs ds vs) (e : atI ds i = some d) : ∃ v, atI vs i = some v ∧ Rep K M G hs d v := by
  unfold atI at e ⊢
  rw [← r.length]
  cases q : ixN ds.length i with
  | none => rw [q] at e; cases e
  | some j =>
    rw [q] at e
    exact r.get (i := j) e
theorem de_ix (ha : DB M X W a fa) (hb : DB M X W b fb) (hs : PlainIx b := by exact fun _ _ => rfl) : DE M X W (.Subscript a b pos) (bopD opIx fa fb) := by
  obtain ⟨ta, pa, ha⟩ := ha.ex
  obtain ⟨tb, pb, hb⟩ := hb.ex
  refine ⟨_, pe_ix (ix_list.or ix_tup) pa pb hs, fun A σ H G hs own η s Q I hp => bin_run (op := getItem) ?_ ha hb I hp⟩
  intro G hs s H x y z v u Q J hx hy e k
  unfold opIx at e
  split at e
  · obtain ⟨a, vs, rfl, h1, r⟩ := hx.lst J
    obtain ⟨w, h2, h3⟩ := r.at e
    exact .inl ⟨a, vs, _, w, rfl, hy.int, SqL.of h1, h2, k G H (Stp.refl _ _ _ _) J w h3⟩
  · obtain ⟨a, vs, rfl, h1, r⟩ := hx.tup J
    obtain ⟨w, h2, h3⟩ := r.at e
    exact .inr ⟨a, vs, _, w, rfl, hy.int, h1, h2, k G H (Stp.refl _ _ _ _) J w h3⟩
  · cases e
/-- the part of a list -/
def cutD (ds : List D) (lo hi : Option Int) : List D := (ds.drop (HT.sIx ds.length 0 lo)).take (HT.sIx ds.length ds.length hi - HT.sIx ds.length 0 lo)
theorem RepL.cut {K : PySem.W.Frag} {G : Hp} {hs : List Addr} {ds : List D} {vs : List V} (r : RepL K M G hs ds vs) (lo hi : Option Int) : RepL K M G hs (cutD ds lo hi) (cutV vs lo hi) := by
  unfold cutD cutV
  rw [← r.length]
  exact (r.drop _).take _
def opCut : D → Option Int → Option Int → Option D
  | .lst ds, lo, hi => some (.lst (cutD ds lo hi))
  | .tup ds, lo, hi => some (.tup (cutD ds lo hi))
  | .scr ns, lo, hi => some (.lst (cutD (ns.map .int) lo hi))
  | _, _, _ => none
def asI : D → Option Int
  | .int i => some i
  | _ => none
theorem asI_some {d : D} {i : Int} (h : asI d = some i) : d = .int i := by
  cases d <;> simp_all [asI]
def partN : Env → DS → R (Option Int) := fun _ s => .ok none s
def partS (f : Env → DS → R D) : Env → DS → R (Option Int) := fun η s => (f η s).bind fun d s1 => (R.ofO (asI d) s1).bind fun i s2 => .ok (some i) s2
structure DO (M : Mp) (X : Cx) (W : WX) (e : Option Expr) (f : Env → DS → R (Option Int)) : Prop where
  ex : ∃ t, PO X e t ∧ ∀ (A : Anc) (σ : L2.St) (H G : Hp) (hs : List Addr) (own : Nat → Addr) (η : Env) (s : DS) (Q : Option Int → Hp → Prop), Sm X.K M A σ H G hs own η s →
    RPost X.K M σ W G hs H (f η s) (fun d _ _ _ H' => Q d H') → t σ H Q
theorem do_none : DO M X W none partN := ⟨_, po_none, fun A σ H G hs own η s Q I r => r G hs H (Stp.refl _ _ _ _) I.sim⟩
theorem do_some (h : DE M X W e f) : DO M X W (some e) (partS f) := by
  obtain ⟨t, p, h⟩ := h.ex
  refine ⟨_, po_some p, fun A σ H G hs own η s Q I hp => ?_⟩
  refine h A σ H G hs own η s _ I (hp.bind.mono fun d G1 hs1 s1 H1 S1 J1 h1 v hv => ?_)
  obtain ⟨i, e, k⟩ := h1.bind.ofO
  rw [asI_some e, rep_int] at hv
  exact ⟨i, hv, k G1 hs1 H1 (Stp.refl _ _ _ _) J1 G1 hs1 H1 (Stp.refl _ _ _ _) J1⟩
def sliceD (fa : Env → DS → R D) (fl fh : Env → DS → R (Option Int)) : Env → DS → R D := fun η s => (fa η s).bind fun x s1 => (fl η s1).bind fun l s2 => (fh η s2).bind fun u s3 => R.ofO (opCut (deref s3 x) l u) s3
theorem de_slice {lo hi : Option Expr} {fl fh : Env → DS → R (Option Int)} {p2 : Pos} (ha : DB M X W a fa) (hl : DO M X W lo fl) (hh : DO M X W hi fh) : DE M X W (.Subscript a (.Slice lo hi none p2) pos) (sliceD fa fl fh) := by
  obtain ⟨ta, pa, ha⟩ := ha.ex
  obtain ⟨tl, pl, hl⟩ := hl.ex
  obtain ⟨th, ph, hh⟩ := hh.ex
  refine ⟨_, pe_slice (sl_list.or sl_tupA) pa pl ph, fun A σ H G hs own η s Q I hp => ?_⟩
  refine ha A σ H G hs own η s _ I (hp.bind.mono fun x G1 hs1 s1 H1 S1 J1 h1 v hv => ?_)
  refine hl A σ H1 G1 hs1 own η s1 _ (I.step S1 J1) (h1.bind.mono fun l G2 hs2 s2 H2 S2 J2 h2 => ?_)
  refine hh A σ H2 G2 hs2 own η s2 _ ((I.step S1 J1).step S2 J2) (h2.bind.mono fun u G3 hs3 s3 H3 S3 J3 h3 => ?_)
  obtain ⟨z, e, k⟩ := h3.ofO
  have hx := ((hv.step S2).step S3).read J3
  generalize deref s3 x = d at hx e
  unfold opCut at e
  split at e
  · cases e
    obtain ⟨a, vs, rfl, h1, r⟩ := hx.lst J3
    exact .inl ⟨a, vs, rfl, SqL.of h1, fun p hp => k _ _ _ (J3.laid hp).1 (J3.laid hp).2 _ (rep_newL (J3.free hp).1 (r.cut l u))⟩
  · cases e
    rename_i ds
    have hx' : Rep X.K M G3 hs3 (.tup ds) v := by
      rcases hx with hx | ⟨_, _, hx⟩
      · exact hx
      · exact hx.elim
    obtain ⟨a, vs, rfl, h1, r⟩ := hx.tup J3
    refine .inr ⟨a, vs, rfl, h1, fun z => ?_, fun _ p hp => k _ _ _ (J3.laid hp).1 (J3.laid hp).2 _ (rep_newT (J3.free hp).1 (r.cut l u))⟩
    refine k _ _ _ (Stp.refl _ _ _ _) J3 _ ?_
    have ec : cutD ds l u = ds := by
      unfold cutD
      rw [← r.length] at z
      rw [z.1, z.2, List.drop_zero, Nat.sub_zero, List.take_length]
    rw [ec]
    exact hx'
  · cases e
    rename_i ns
    have hx' : Rep X.K M G3 hs3 (.scr ns) v := by
      rcases hx with hx | ⟨_, _, hx⟩
      · exact hx
      · exact hx.elim
    obtain ⟨a, rfl, h1⟩ := rep_scr.mp hx'
    exact .inl ⟨a, _, rfl, J3.sub.seq h1, fun p hp => k _ _ _ (J3.laid hp).1 (J3.laid hp).2 _ (rep_newL (J3.free hp).1 (RepL.cut (RepL.ints.mpr rfl) l u))⟩
  · cases e
/-- what the written part says of the class c -/
structure ClsOk (K : PySem.W.Frag) (M : Mp) (c : Nat) : Prop where
  cl : Cls K (M.cls c)
  no : ∀ f ∈ M.flds c, NoAttr K (M.cls c) f
  nd : (M.flds c).Nodup
  few : (M.flds c).length < 1000
def fldO (c i : Nat) : D → Option D
  | .obj c' ds => if c' = c then ds[i]? else none
  | _ => none
def fldD (c i : Nat) (fa : Env → DS → R D) : Env → DS → R D := uopD (fldO c i) fa
theorem lookup_at : ∀ {fs : List (Str × V)} {i : Nat} {f : Str} {v : V}, (fs.map (·.1)).Nodup → (fs.map (·.1))[i]? = some f → (fs.map (·.2))[i]? = some v → fs.lookup f = some v
  | [], _, _, _, _, h, _ => by simp at h
  | (g, w) :: fs, 0, f, v, _, h1, h2 => by
    simp at h1 h2
    subst h1 h2
    simp [List.lookup]
  | (g, w) :: fs, i + 1, f, v, nd, h1, h2 => by
    rw [List.map_cons, List.nodup_cons] at nd
    have h3 : (fs.map (·.1))[i]? = some f := by simpa using h1
    have hne : ¬ f = g := fun e => nd.1 (by rw [← e]; exact List.mem_of_getElem? h3)
    have hne' : (f == g) = false := by simpa using hne
    rw [List.lookup_cons, hne']
    exact lookup_at nd.2 h3 (by simpa using h2)
theorem RV.fld {K : PySem.W.Frag} {G H : Hp} {hs : List Addr} {s : DS} {c i : Nat} {d z : D} {v : V} {f : Str} (C : ClsOk K M c) (J : Sim K M G hs s H) (hf : (M.flds c)[i]? = some f) (h : RV K M G hs H d v) (e : fldO c i d = some z) :
    ∃ a dx fs w, v = .ref a ∧ H a = some (.ins (M.cls c) dx fs) ∧ fs.lookup f = some w ∧ Rep K M G hs z w := by
  unfold fldO at e
  split at e
  · rename_i c' ds
    split at e
    · rename_i hc
      subst hc
      rcases h with h | ⟨a, rfl, dx, fs, h1, h2, h3⟩
      · obtain ⟨a, dx, fs, rfl, h1, h2, h3⟩ := rep_obj.mp h
        obtain ⟨w, hw, rw'⟩ := h3.get e
        exact ⟨a, dx, fs, w, rfl, J.sub _ _ h1, lookup_at (by rw [h2]; exact C.nd) (by rw [h2]; exact hf) hw, rw'⟩
      · obtain ⟨w, hw, rw'⟩ := h3.get e
        have hi : i < ds.length := (List.getElem?_eq_some_iff.mp e).1
        exact ⟨a, dx, fs, w, rfl, h1, lookup_at (by rw [h2]; exact C.nd.sublist (List.take_sublist _ _)) (by rw [h2, List.getElem?_take_of_lt hi]; exact hf) hw, rw'⟩
    · cases e
  · cases e
theorem de_fld {c i : Nat} {f : Str} (C : ClsOk X.K M c) (ha : DB M X W a fa) (hf : (M.flds c)[i]? = some f := by rfl) (hb : attributeBase a f X.env (eval a X.env) = eval a X.env := by rfl) : DE M X W (.Attribute a f pos) (fldD c i fa) := by
  obtain ⟨ta, pa, ha⟩ := ha.ex
  refine ⟨_, pe_fld pa hb, fun A σ H G hs own η s Q I hp => ?_⟩
  refine ha A σ H G hs own η s _ I (hp.bind.mono fun x G1 hs1 s1 H1 S1 J1 h1 v hv => ?_)
  obtain ⟨z, e, k⟩ := h1.ofO
  obtain ⟨a, dx, fs, w, rfl, h2, h3, h4⟩ := (hv.read J1).fld C J1 hf e
  exact ⟨a, _, dx, fs, w, rfl, h2, C.cl, C.no f (List.mem_of_getElem? hf), h3, k G1 hs1 H1 (Stp.refl _ _ _ _) J1 _ h4⟩
end
end DL
set_option Elab.async false
set_option linter.all false
set_option maxRecDepth 100000
set_option maxHeartbeats 2000000
namespace DL
open PySem PySem.Spec PyProof.Rows L2
def RVL (K : PySem.W.Frag) (M : Mp) (G : Hp) (hs : List Addr) (H : Hp) : List D → List V → Prop := Paired (RV K M G hs H)
section
variable (M : Mp) (X : Cx)
abbrev CEx (r : List V → Hp → VK → Prop) (o : List D → Option D) : Prop := ∀ (G : Hp) (hs : List Addr) (s : DS) (H : Hp) (ds : List D) (z : D) (vs : List V) (Q : VK), Sim X.K M G hs s H → RVL X.K M G hs H ds vs → o ds = some z →
    (∀ G' H', Stp M G hs H G' hs H' → Sim X.K M G' hs s H' → ∀ w, Rep X.K M G' hs z w → Q w H') → r vs H Q
structure CallD (f : Value) (o : List D → Option D) : Prop where
  ex : ∃ r, CallR X f r ∧ CEx M X r o
end
def bltD (o : List D → Option D) (g : Env → DS → R (List D)) : Env → DS → R D := fun η s => (g η s).bind fun ds s1 => R.ofO (o (ds.map (deref s1))) s1
section
variable {M : Mp} {X : Cx} {W : WX} {e : Expr} {es : List Expr} {g : Env → DS → R (List D)} {pos p : Pos} {x : Str} {id T : String} {o : List D → Option D}
theorem BVL.read {K : PySem.W.Frag} {G H : Hp} {hs : List Addr} {s : DS} {ds : List D} {vs : List V} (J : Sim K M G hs s H) (h : BVL K M G hs H ds vs) : RVL K M G hs H (ds.map (deref s)) vs := by
  unfold BVL at h
  unfold RVL
  induction h with
  | nil => exact Paired.nil
  | cons h t ih => exact Paired.cons (h.read J) ih
theorem blt_run {r : List V → Hp → VK → Prop} {t : TA} {A : Anc} {σ : L2.St} {H G : Hp} {hs : List Addr} {own : Nat → Addr} {η : Env} {s : DS} {Q : VK} (hr : CEx M X r o) (ha : ABEx M X W t g) (I : Sm X.K M A σ H G hs own η s)
    (hp : RPost X.K M σ W G hs H (bltD o g η s) (fun d G' hs' _ H' => ∀ v, Rep X.K M G' hs' d v → Q v H')) : tCB r t σ H Q := by
  refine ha A σ H G hs own η s _ I (hp.bind.mono fun ds G1 hs1 s1 H1 S1 J1 h1 vs hvs => ?_)
  obtain ⟨z, e, k⟩ := h1.ofO
  exact hr G1 hs1 s1 H1 _ z vs Q J1 (hvs.read J1) e fun G3 H3 S3 J3 w hw => k G3 hs1 H3 S3 J3 w hw
theorem de_blt (ho : CallD M X (.builtin id) o) (hm : X.mg x = none) (hv : bootBuiltins x = some (.builtin id)) (ha : DAB M X W (e :: es) g) (hg : Gl X x := by rfl) (hn : x ≠ "__name__" := by decide) (hdb : (x == ("__debug__" : Str)) = false := by decide)
    (he : starEach (e :: es) X.env = (false, eval e X.env) :: starEach es X.env := by rfl) (hpl : (backTo pos (starEach es X.env)).any (·.1) = false := by rfl) : DE M X W (.Call (.Name x p) (e :: es) [] pos) (bltD o g) := by
  obtain ⟨r, hc, hr⟩ := ho.ex
  obtain ⟨t, pa, ha⟩ := ha.ex
  exact ⟨_, pe_callB hc hg hm hv pa hn hdb he hpl, fun A σ H G hs own η s Q I hp => blt_run hr ha I hp⟩
theorem de_bty (ho : CallD M X (.type T) o) (hm : X.mg x = none) (hv : bootBuiltins x = some (.type T)) (ha : DAB M X W (e :: es) g) (hg : Gl X x := by rfl) (hn : x ≠ "__name__" := by decide) (hdb : (x == ("__debug__" : Str)) = false := by decide)
    (he : starEach (e :: es) X.env = (false, eval e X.env) :: starEach es X.env := by rfl) (hpl : (backTo pos (starEach es X.env)).any (·.1) = false := by rfl) : DE M X W (.Call (.Name x p) (e :: es) [] pos) (bltD o g) := by
  obtain ⟨r, hc, hr⟩ := ho.ex
  obtain ⟨t, pa, ha⟩ := ha.ex
  exact ⟨_, pe_callTy hc hg hm hv pa hn hdb he hpl, fun A σ H G hs own η s Q I hp => blt_run hr ha I hp⟩
theorem RVL.one {K : PySem.W.Frag} {G H : Hp} {hs : List Addr} {d : D} {vs : List V} (h : RVL K M G hs H [d] vs) : ∃ v, vs = [v] ∧ RV K M G hs H d v := by
  cases h with
  | cons h t => cases t; exact ⟨_, rfl, h⟩
theorem RVL.two {K : PySem.W.Frag} {G H : Hp} {hs : List Addr} {d d' : D} {vs : List V} (h : RVL K M G hs H [d, d'] vs) : ∃ v v', vs = [v, v'] ∧ RV K M G hs H d v ∧ RV K M G hs H d' v' := by
  cases h with
  | cons h t => cases t with
    | cons h' t => cases t; exact ⟨_, _, rfl, h, h'⟩
def absO : List D → Option D
  | [.int i] => some (.int (if i < 0 then -i else i))
  | _ => none
theorem cd_abs : CallD M X (.builtin "abs") absO := by
  refine ⟨_, call_abs, fun G hs s H ds z vs Q J hv e k => ?_⟩
  unfold absO at e
  split at e
  · cases e
    obtain ⟨v, rfl, h⟩ := hv.one
    exact ⟨_, by rw [h.int], k G H (Stp.refl _ _ _ _) J _ (rep_int.mpr rfl)⟩
  · cases e
def intO : List D → Option D
  | [.int i] => some (.int i)
  | [.bl b] => some (.int (if b = true then 1 else 0))
  | _ => none
theorem cd_int : CallD M X (.type "int") intO := by
  refine ⟨_, call_int1, fun G hs s H ds z vs Q J hv e k => ?_⟩
  unfold intO at e
  split at e
  · cases e
    obtain ⟨v, rfl, h⟩ := hv.one
    exact .inl ⟨_, by rw [h.int], k G H (Stp.refl _ _ _ _) J _ (rep_int.mpr rfl)⟩
  · cases e
    obtain ⟨v, rfl, h⟩ := hv.one
    exact .inr ⟨_, by rw [h.bl], k G H (Stp.refl _ _ _ _) J _ (rep_int.mpr rfl)⟩
  · cases e
def min2O : List D → Option D
  | [.int i, .int j] => some (.int (if j < i then j else i))
  | _ => none
def max2O : List D → Option D
  | [.int i, .int j] => some (.int (if j > i then j else i))
  | _ => none
theorem cd_min2 (hc : X.calm = true) : CallD M X (.builtin "min") min2O := by
  refine ⟨_, call_min2 hc, fun G hs s H ds z vs Q J hv e k => ?_⟩
  unfold min2O at e
  split at e
  · cases e
    obtain ⟨v, v', rfl, h, h'⟩ := hv.two
    exact ⟨_, _, by rw [h.int, h'.int], k G H (Stp.refl _ _ _ _) J _ (rep_int.mpr rfl)⟩
  · cases e
def lenO : List D → Option D
  | [.lst l] => some (.int (l.length : Nat))
  | [.tup l] => some (.int (l.length : Nat))
  | [.str z] => if z.length ≤ 16777216 then some (.int (z.length : Nat)) else none
  | _ => none
theorem cd_len : CallD M X (.builtin "len") lenO := by
  refine ⟨_, call_len, fun G hs s H ds z vs Q J hv e k => ?_⟩
  unfold lenO at e
  split at e
  · cases e
    obtain ⟨v, rfl, h⟩ := hv.one
    obtain ⟨a, ws, rfl, h1, r⟩ := h.lst J
    refine ⟨_, _, rfl, .inl ⟨ws, SqL.of h1, rfl⟩, ?_⟩
    rw [← r.length]
    exact k G H (Stp.refl _ _ _ _) J _ (rep_int.mpr rfl)
  · cases e
    obtain ⟨v, rfl, h⟩ := hv.one
    obtain ⟨a, ws, rfl, h1, r⟩ := h.tup J
    refine ⟨_, _, rfl, .inr ⟨ws, h1, rfl⟩, ?_⟩
    rw [← r.length]
    exact k G H (Stp.refl _ _ _ _) J _ (rep_int.mpr rfl)
  · split at e
    · rename_i z hl
      cases e
      obtain ⟨v, rfl, h⟩ := hv.one
      rw [h.str]
      exact ⟨_, _, rfl, ⟨by rw [line_]; exact hl, rfl⟩, k G H (Stp.refl _ _ _ _) J _ (rep_int.mpr rfl)⟩
    · cases e
  · cases e
def listO : List D → Option D
  | [.lst l] => some (.lst l)
  | [.tup l] => some (.lst l)
  | _ => none
def tupleO : List D → Option D
  | [.lst l] => some (.tup l)
  | [.tup l] => some (.tup l)
  | _ => none
/-- sum of ints -/
def intsOf : List D → Option (List Int)
  | [] => some []
  | .int i :: r => (intsOf r).map (i :: ·)
  | _ => none
theorem intsOf_some : ∀ {l : List D} {ns : List Int}, intsOf l = some ns → l = ns.map .int
  | [], ns, h => by simp [intsOf] at h; subst h; rfl
  | d :: l, ns, h => by
    cases d with
    | int i =>
      simp only [intsOf, Option.map_eq_some_iff] at h
      obtain ⟨r, h1, rfl⟩ := h
      rw [intsOf_some h1]
      rfl
    | _ => simp [intsOf] at h
theorem intsOf_map : ∀ (ns : List Int), intsOf (ns.map .int) = some ns
  | [] => rfl
  | n :: ns => by simp [intsOf, intsOf_map ns]
def sumO : List D → Option D
  | [.lst l] => (intsOf l).map fun ns => .int ns.sum
  | _ => none
/-- the least of alike data -/
def ltD (x y : D) : Bool := PySem.W.dataLt (toPD x) (toPD y)
def alikeD (x y : D) : Bool := PySem.W.alike (toPD x) (toPD y)
def likeAll (l : List D) : Bool := dOkL l && decide (dDepL l ≤ 60) && l.all (fun x => l.all fun y => alikeD x y) && l.all (fun x => match x with | .non => false | _ => true)
def minF (x : D) (xs : List D) : D := xs.foldl (fun a y => if ltD y a = true then y else a) x
def maxF (x : D) (xs : List D) : D := xs.foldl (fun a y => if ltD a y = true then y else a) x
mutual
theorem toPD_inj : ∀ (d e : D), dOk d = true → dOk e = true → toPD d = toPD e → d = e
  | .non, e, _, h, q => by cases e <;> simp_all [toPD, dOk]
  | .bl b, e, _, h, q => by cases e <;> simp_all [toPD, dOk]
  | .int b, e, _, h, q => by cases e <;> simp_all [toPD, dOk]
  | .str b, e, _, h, q => by cases e <;> simp_all [toPD, dOk]
  | .tup l, e, h, h', q => by
    cases e with
    | tup l' =>
      simp only [toPD, PyData.tuple.injEq] at q
      rw [toPDL_inj l l' (by simpa [dOk] using h) (by simpa [dOk] using h') q]
    | _ => simp_all [toPD, dOk]
  | .lst l, e, h, h', q => by
    cases e with
    | lst l' =>
      simp only [toPD, PyData.list.injEq] at q
      rw [toPDL_inj l l' (by simpa [dOk] using h) (by simpa [dOk] using h') q]
    | _ => simp_all [toPD, dOk]
  | .dic _, _, h, _, _ => by simp [dOk] at h
  | .obj _ _, _, h, _, _ => by simp [dOk] at h
  | .han _, _, h, _, _ => by simp [dOk] at h
  | .scr _, _, h, _, _ => by simp [dOk] at h
  | .tup0 _, _, h, _, _ => by simp [dOk] at h
  | .dit _, _, h, _, _ => by simp [dOk] at h
  | .clo _ _, _, h, _, _ => by simp [dOk] at h
theorem toPDL_inj : ∀ (d e : List D), dOkL d = true → dOkL e = true → toPDL d = toPDL e → d = e
  | [], e, _, _, q => by cases e <;> simp_all [toPDL]
  | d :: l, [], _, _, q => by simp [toPDL] at q
  | d :: l, e :: l', h, h', q => by
    have h1 : dOk d = true ∧ dOkL l = true := by simpa [dOkL] using h
    have h2 : dOk e = true ∧ dOkL l' = true := by simpa [dOkL] using h'
    simp only [toPDL, List.cons.injEq] at q
    rw [toPD_inj d e h1.1 h2.1 q.1, toPDL_inj l l' h1.2 h2.2 q.2]
end
theorem toPDL_map : ∀ (l : List D), toPDL l = l.map toPD
  | [] => by simp [toPDL]
  | d :: l => by simp [toPDL, toPDL_map l]
theorem dOkL_mem : ∀ {l : List D} {d : D}, dOkL l = true → d ∈ l → dOk d = true
  | e :: l, d, h, hm => by
    have h1 : dOk e = true ∧ dOkL l = true := by simpa [dOkL] using h
    rcases List.mem_cons.mp hm with rfl | hm
    · exact h1.1
    · exact dOkL_mem h1.2 hm
theorem toPD_minF (x : D) : ∀ (xs : List D), toPD (minF x xs) = PySem.W.minD (toPD x) (xs.map toPD) := by
  intro xs
  unfold minF PySem.W.minD
  induction xs generalizing x with
  | nil => rfl
  | cons y ys ih =>
    rw [List.map_cons, List.foldl_cons, List.foldl_cons, ih]
    congr 1
    show toPD (if ltD y x = true then y else x) = if PySem.W.dataLt (toPD y) (toPD x) = true then toPD y else toPD x
    unfold ltD
    split <;> rfl
theorem minF_mem (x : D) : ∀ (xs : List D), minF x xs ∈ x :: xs := by
  intro xs
  unfold minF
  induction xs generalizing x with
  | nil => exact List.mem_cons_self
  | cons y ys ih =>
    rw [List.foldl_cons]
    have q := ih (if ltD y x = true then y else x)
    rcases List.mem_cons.mp q with e | e
    · rw [e]
      split
      · exact List.mem_cons_of_mem _ List.mem_cons_self
      · exact List.mem_cons_self
    · exact List.mem_cons_of_mem _ (List.mem_cons_of_mem _ e)
theorem likeAll_of {l : List D} (h : likeAll l = true) : dOkL l = true ∧ dDepL l ≤ 60 ∧ PySem.W.AlikeAll (l.map toPD) := by
  unfold likeAll at h
  simp only [Bool.and_eq_true, decide_eq_true_eq, List.all_eq_true] at h
  obtain ⟨⟨⟨h1, h2⟩, h3⟩, h4⟩ := h
  refine ⟨h1, h2, fun x hx y hy => ?_, fun x hx => ?_⟩
  · obtain ⟨d, hd, rfl⟩ := List.mem_map.mp hx
    obtain ⟨e, he, rfl⟩ := List.mem_map.mp hy
    exact h3 d hd e he
  · obtain ⟨d, hd, rfl⟩ := List.mem_map.mp hx
    have q := h4 d hd
    have o := dOkL_mem h1 hd
    cases d <;> simp_all [toPD, dOk]
def minO : List D → Option D
  | [.lst (d :: ds)] => if likeAll (d :: ds) = true then some (minF d ds) else none
  | _ => none
def maxO : List D → Option D
  | [.lst (d :: ds)] => if likeAll (d :: ds) = true then some (maxF d ds) else none
  | _ => none
/-- an item of a list that reads as a datum -/
theorem item_is {K : PySem.W.Frag} {G : Hp} {hs : List Addr} {l : List D} {vs : List V} {its : List Value} {h : Heap} {i : Nat} {u : Value} {d : D} {bs : List Addr} (r : RepL K M G hs l vs) (rv : Vals vs its) (hu : its[i]? = some u) (ok : dOkL l = true) (hd : d ∈ l)
    (h1 : Reads h u (toPD d) bs) (h2 : ∀ (j : Nat) (e : D) (w : Value), l[j]? = some e → its[j]? = some w → ∃ cs, Reads h w (toPD e) cs) (hal : PySem.W.AlikeAll (l.map toPD)) : ∃ v, vs[i]? = some v ∧ RelV v u ∧ Rep K M G hs d v := by
  have hi : i < its.length := (List.getElem?_eq_some_iff.mp hu).1
  have hiv : i < vs.length := by rw [rv.length]; exact hi
  have e1 : vs[i]? = some vs[i] := List.getElem?_eq_getElem hiv
  obtain ⟨u', hu', ru⟩ := rv.get e1
  rw [hu] at hu'
  cases hu'
  obtain ⟨e, he, re⟩ := r.get' e1
  obtain ⟨cs, h3⟩ := h2 i e u he hu
  have hm := List.mem_of_getElem? he
  have q := PySem.W.alike_unique _ _ _ _ _ (hal.1 _ (List.mem_map.mpr ⟨e, hm, rfl⟩) _ (List.mem_map.mpr ⟨d, hd, rfl⟩)) h3 h1
  have q2 := toPD_inj e d (dOkL_mem ok hm) (dOkL_mem ok hd) q
  subst q2
  exact ⟨_, e1, ru, re⟩
theorem readsAll_get {h : Heap} : ∀ {us : List Value} {ds : List PyData} {as : List Addr}, ReadsAll h us ds as → ∀ (j : Nat) (e : PyData) (w : Value), ds[j]? = some e → us[j]? = some w → ∃ cs, Reads h w e cs
  | _, _, _, .nil, j, e, w, h1, _ => by simp at h1
  | _, _, _, .cons r rs, 0, e, w, h1, h2 => by
    simp at h1 h2
    subst h1 h2
    exact ⟨_, r⟩
  | _, _, _, .cons r rs, j + 1, e, w, h1, h2 => readsAll_get rs j e w (by simpa using h1) (by simpa using h2)
end
end DL
set_option Elab.async false
set_option linter.all false
set_option maxRecDepth 100000
set_option maxHeartbeats 2000000
namespace DL
open PySem PySem.Spec PyProof.Rows L2
inductive F where
  | nx (η : Env) (s : DS) | rt (d : D) (s : DS) | bk (η : Env) (s : DS) | ct (η : Env) (s : DS) | ex (c : Nat) (p : List D) (η : Env) (s : DS) | bad
def R.toF {α : Type} (r : R α) (η : Env) (k : α → DS → F) : F := match r with
  | .ok a s => k a s
  | .ex c p s => .ex c p η s
  | .bad => .bad
def FPost (K : PySem.W.Frag) (M : Mp) (A : Anc) (W : WX) (E : Ends) : F → Prop
  | .nx η s => ∀ σ H G hs own, Sm K M A σ H G hs own η s → E.nx σ H
  | .rt d s => ∀ H G hs v, Stp M A.G A.hs A.H G hs H → Sim K M G hs s H → Rep K M G hs d v → E.rt v H
  | .bk η s => ∀ σ H G hs own, Sm K M A σ H G hs own η s → E.bk σ H
  | .ct η s => ∀ σ H G hs own, Sm K M A σ H G hs own η s → E.ct σ H
  | .ex c p η s => ∀ σ H G hs own cls dx, Sm K M A σ H G hs own η s → ExR K M G hs H c p cls dx → W cls dx σ H
  | .bad => False
section
variable (M : Mp) (X : Cx) (W : WX)
abbrev SEx (t : TS) (g : Env → DS → F) : Prop := ∀ (A : Anc) (σ : L2.St) (H G : Hp) (hs : List Addr) (own : Nat → Addr) (η : Env) (s : DS) (E : Ends), Sm X.K M A σ H G hs own η s → FPost X.K M A W E (g η s) → t E σ H
structure DSt (st : Stmt) (g : Env → DS → F) : Prop where
  ex : ∃ t, PS X st t ∧ SEx M X W t g
structure DSs (st : List Stmt) (g : Env → DS → F) : Prop where
  ex : ∃ t, PSs X st t ∧ SEx M X W t g
end
def nextB : Env → DS → F := fun η s => .nx η s
def seqB (f g : Env → DS → F) : Env → DS → F := fun η s => match f η s with
  | .nx η' s' => g η' s'
  | r => r
def ifB (c : Env → DS → R Bool) (f g : Env → DS → F) : Env → DS → F := fun η s => (c η s).toF η fun b s1 => if b = true then f η s1 else g η s1
def retB (f : Env → DS → R D) : Env → DS → F := fun η s => (f η s).toF η fun d s1 => .rt d s1
def retN : Env → DS → F := fun _ s => .rt .non s
def dropB (f : Env → DS → R D) : Env → DS → F := fun η s => (f η s).toF η fun _ s1 => .nx η s1
def setF (η : Env) (i : Nat) (d : D) (s : DS) : F := if i < η.length then .nx (η.set i (.v d)) s else .bad
def setOF (η : Env) (i : Nat) (d : D) (s : DS) : F := if 0 < i ∧ i < η.length then .nx (η.set i (.o d)) s else .bad
def setB (i : Nat) (f : Env → DS → R D) : Env → DS → F := fun η s => (f η s).toF η fun d s1 => setF η i d s1
def setOB (i : Nat) (f : Env → DS → R D) : Env → DS → F := fun η s => (f η s).toF η fun d s1 => setOF η i d s1
def breakB : Env → DS → F := fun η s => .bk η s
def contB : Env → DS → F := fun η s => .ct η s
section
variable {M : Mp} {X : Cx} {W : WX} {st : Stmt} {rest : List Stmt} {f g : Env → DS → F} {e : Expr} {fe : Env → DS → R D} {pos : Pos}
theorem FPost.lift {K : PySem.W.Frag} {A : Anc} {σ : L2.St} {H G : Hp} {hs : List Addr} {own : Nat → Addr} {η : Env} {s : DS} {E : Ends} {α : Type} {r : R α} {k : α → DS → F} (I : Sm K M A σ H G hs own η s) (h : FPost K M A W E (r.toF η k)) :
    RPost K M σ W G hs H r (fun a _ _ s' _ => FPost K M A W E (k a s')) := by
  cases r with
  | ok a s' => exact fun G' hs' H' _ _ => h
  | ex c p s' => exact fun G' hs' H' cls dx S J hx => h σ H' G' hs' own cls dx (I.step S J) hx
  | bad => exact h
theorem dss_nil : DSs M X W [] nextB := ⟨_, pss_nil, fun A σ H G hs own η s E I h => h σ H G hs own I⟩
theorem FPost.seq {K : PySem.W.Frag} {A : Anc} {E : Ends} {u : TS} {η : Env} {s : DS} (k : ∀ (A : Anc) (σ : L2.St) (H G : Hp) (hs : List Addr) (own : Nat → Addr) (η : Env) (s : DS) (E : Ends), Sm K M A σ H G hs own η s → FPost K M A W E (g η s) → u E σ H)
    (h : FPost K M A W E (seqB f g η s)) : FPost K M A W { E with nx := u E } (f η s) := by
  unfold seqB at h
  cases e : f η s with
  | nx η' s' =>
    rw [e] at h
    exact fun σ H G hs own I => k A σ H G hs own η' s' E I h
  | rt d s' => rw [e] at h; exact h
  | bk η' s' => rw [e] at h; exact h
  | ct η' s' => rw [e] at h; exact h
  | ex c p η' s' => rw [e] at h; exact h
  | bad => rw [e] at h; exact h
theorem dss_cons (h1 : DSt M X W st f) (h2 : DSs M X W rest g) : DSs M X W (st :: rest) (seqB f g) := by
  obtain ⟨t, p, h⟩ := h1.ex
  obtain ⟨u, q, k⟩ := h2.ex
  exact ⟨_, pss_cons p q, fun A σ H G hs own η s E I hp => h A σ H G hs own η s _ I (FPost.seq k hp)⟩
theorem dss_one (h1 : DSt M X W st f) : DSs M X W [st] f := by
  obtain ⟨t, p, h⟩ := h1.ex
  exact ⟨_, pss_one p, h⟩
theorem ds_if {c : Expr} {a b : List Stmt} {tc : Env → DS → R Bool} (hc : DT M X W c tc) (ha : DSs M X W a f) (hb : DSs M X W b g) : DSt M X W (.If c a b pos) (ifB tc f g) := by
  obtain ⟨t, p, h⟩ := hc.ex
  obtain ⟨ta, pa, ha⟩ := ha.ex
  obtain ⟨tb, pb, hb⟩ := hb.ex
  refine ⟨_, ps_if p pa pb, fun A σ H G hs own η s E I hp => ?_⟩
  refine h A σ H G hs own η s _ I ((hp.lift I).mono fun b G1 hs1 s1 H1 S1 J1 h1 => ?_)
  cases b with
  | true =>
    rw [if_pos rfl] at h1 ⊢
    exact ha A σ H1 G1 hs1 own η s1 E (I.step S1 J1) h1
  | false =>
    rw [if_neg Bool.false_ne_true] at h1 ⊢
    exact hb A σ H1 G1 hs1 own η s1 E (I.step S1 J1) h1
/-- return, where no name that owns is given out -/
theorem ds_ret (he : DE M X W e fe) : DSt M X W (.Return (some e) pos) (retB fe) := by
  obtain ⟨t, p, h⟩ := he.ex
  refine ⟨_, ps_ret p, fun A σ H G hs own η s E I hp => ?_⟩
  exact h A σ H G hs own η s _ I ((hp.lift I).mono fun d G1 hs1 s1 H1 S1 J1 h1 v hv => h1 H1 G1 hs1 v (I.stp.trans S1) J1 hv)
/-- no dict -/
def noDc : D → Prop
  | .dic _ => False
  | .dit _ => False
  | _ => True
theorem at_rep {K : PySem.W.Frag} {G H : Hp} {hs : List Addr} {a : Addr} (g : G a = none) : ∀ {d : D}, At K M G hs H a d → (∀ c ds, d = .obj c ds → ds.length = (M.flds c).length) → noDc d → ∃ o, H a = some o ∧ Rep K M (upd G a o) hs d (.ref a)
  | .lst ds, ⟨vs, h1, h2⟩, _, _ => ⟨_, h1, rep_lst.mpr ⟨a, vs, rfl, upd_same, h2.mono (same_upd g) (Pre.refl _)⟩⟩
  | .dic kvs, _, _, hd => hd.elim
  | .dit kvs, _, _, hd => hd.elim
  | .obj c ds, ⟨dx, fs, h1, h2, h3⟩, hl, _ => ⟨_, h1, rep_obj.mpr ⟨a, dx, fs, rfl, upd_same, by rw [h2, hl c ds rfl, List.take_length], h3.mono (same_upd g) (Pre.refl _)⟩⟩
/-- a step, and an object that is new since then is from now on still -/
theorem Stp.still {G G' H H' : Hp} {hs hs' : List Addr} {p : Addr} {o : HO} (S : Stp M G hs H G' hs' H') (h0 : Nt H p) (g : G' p = none) : Stp M G hs H (upd G' p o) hs' H' :=
  ⟨S.gg.trans (same_upd g), fun a u e => by
    by_cases z : a = p
    · subst z; exact .inr (.inl h0)
    · rw [upd_ne z] at e; exact S.fr a u e, S.hp, S.hf, S.kp, S.dm⟩
def notObj : D → Bool
  | .obj _ _ => false
  | .dic _ => false
  | .dit _ => false
  | _ => true
theorem notDic_of {d : D} (h : notObj d = true) : noDc d := by
  cases d <;> first | trivial | cases h
theorem notObj_of {d : D} (h : notObj d = true) : ∀ c ds, d = .obj c ds → ds.length = (M.flds c).length := by
  intro c ds e
  subst e
  cases h
/-- a name that owns is read as a thing that stays: it owns no more -/
def frzE (η : Env) (i : Nat) : Env := match η[i]? with
  | some (.o d) => if notObj d = true then η.set i (.v d) else η
  | _ => η
theorem set_get {η : Env} {i j : Nat} {x y : Sl} (h : (η.set i x)[j]? = some y) : (j = i ∧ y = x) ∨ (j ≠ i ∧ η[j]? = some y) := by
  by_cases hji : j = i
  · subst hji
    by_cases hl : j < η.length
    · rw [List.getElem?_set_self hl] at h
      cases h
      exact .inl ⟨rfl, rfl⟩
    · rw [List.getElem?_eq_none (by rw [List.length_set]; omega)] at h
      cases h
  · rw [List.getElem?_set_ne (Ne.symm hji)] at h
    exact .inr ⟨hji, h⟩
theorem Sm.frz {K : PySem.W.Frag} {A : Anc} {σ : L2.St} {H G : Hp} {hs : List Addr} {own : Nat → Addr} {η : Env} {s : DS} (I : Sm K M A σ H G hs own η s) (i : Nat) : ∃ G', Sm K M A σ H G' hs own (frzE η i) s := by
  unfold frzE
  split
  · rename_i d e
    split
    · rename_i hd
      obtain ⟨h1, h2, h3, h4, h5, h6⟩ := I.ow i d e
      obtain ⟨o, ho, hr⟩ := at_rep h3 h2 (notObj_of hd) (notDic_of hd)
      refine ⟨upd G (own i) o, I.sim.still ho h4 h5 h3 (at_no h2 ho), I.stp.still h6 h3, fun j d' ej => ?_, fun j d' ej => ?_, fun j k d1 d2 e1 e2 => ?_, by rw [List.length_set]; exact I.el, fun x d2 ex e2 => ?_⟩
      · rcases set_get ej with ⟨rfl, q⟩ | ⟨_, q⟩
        · cases q
          exact ⟨_, h1, hr⟩
        · obtain ⟨v, k1, k2⟩ := I.pl j d' q
          exact ⟨v, k1, k2.mono (same_upd h3) (Pre.refl _)⟩
      · rcases set_get ej with ⟨rfl, q⟩ | ⟨hji, q⟩
        · cases q
        · obtain ⟨k1, k2, k3, k4, k5, k6⟩ := I.ow j d' q
          refine ⟨k1, k2.mono (same_upd h3) (Pre.refl _) rfl, ?_, k4, k5, k6⟩
          rw [upd_ne (fun z => hji (I.inj j i d' d q e z))]
          exact k3
      · rcases set_get e1 with ⟨_, q⟩ | ⟨_, q⟩
        · cases q
        · rcases set_get e2 with ⟨_, q2⟩ | ⟨_, q2⟩
          · cases q2
          · exact I.inj j k d1 d2 q q2
      · rcases set_get e2 with ⟨_, q⟩ | ⟨_, q⟩
        · cases q
        · exact I.sf x d2 ex q
    · exact ⟨G, I⟩
  · exact ⟨G, I⟩
def frzL (is : List Nat) (η : Env) : Env := is.foldl frzE η
def frzB (is : List Nat) (g : Env → DS → F) : Env → DS → F := fun η s => g (frzL is η) s
theorem Sm.set {K : PySem.W.Frag} {A : Anc} {σ : L2.St} {H G : Hp} {hs : List Addr} {own : Nat → Addr} {η : Env} {s : DS} {i : Nat} {d : D} {v : V} (I : Sm K M A σ H G hs own η s) (hl : i < σ.length) (hr : Rep K M G hs d v) :
    Sm K M A (σ.set i (some v)) H G hs own (η.set i (.v d)) s where
  sim := I.sim
  stp := I.stp
  pl := fun j e ej => by
    rcases set_get ej with ⟨rfl, q⟩ | ⟨hji, q⟩
    · cases q
      exact ⟨v, List.getElem?_set_self hl, hr⟩
    · rw [List.getElem?_set_ne (Ne.symm hji)]
      exact I.pl j e q
  ow := fun j e ej => by
    rcases set_get ej with ⟨rfl, q⟩ | ⟨hji, q⟩
    · cases q
    · rw [List.getElem?_set_ne (Ne.symm hji)]
      exact I.ow j e q
  inj := fun j k d1 d2 e1 e2 => by
    rcases set_get e1 with ⟨_, q⟩ | ⟨_, q⟩
    · cases q
    · rcases set_get e2 with ⟨_, q2⟩ | ⟨_, q2⟩
      · cases q2
      · exact I.inj j k d1 d2 q q2
  el := by rw [List.length_set, List.length_set]; exact I.el
  sf := fun x d2 ex e2 => by
    rcases set_get e2 with ⟨_, q⟩ | ⟨_, q⟩
    · cases q
    · exact I.sf x d2 ex q
/-- a thing that no one else has -/
structure Fr1 (K : PySem.W.Frag) (M : Mp) (G : Hp) (hs : List Addr) (H : Hp) (d : D) (p : Addr) : Prop where
  at_ : At K M G hs H p d
  g : G p = none
  h : p ∉ hs
  t : ¬ inTab M p
end
section
variable (M : Mp) (X : Cx) (W : WX)
abbrev FEx (t : TE) (f : Env → DS → R D) : Prop := ∀ (A : Anc) (σ : L2.St) (H G : Hp) (hs : List Addr) (own : Nat → Addr) (η : Env) (s : DS) (Q : VK), Sm X.K M A σ H G hs own η s →
    RPost X.K M σ W G hs H (f η s) (fun d G' hs' _ H' => ∀ p, Nt H p → Fr1 X.K M G' hs' H' d p → Q (.ref p) H') → t σ H Q
structure DF (e : Expr) (f : Env → DS → R D) : Prop where
  ex : ∃ t, PE X e t ∧ FEx M X W t f
end
section
variable {M : Mp} {X : Cx} {W : WX} {e : Expr} {es : List Expr} {f : Env → DS → R D} {g : Env → DS → R (List D)} {pos : Pos}
/-- .. as a thing that stays -/
def calmD (f : Env → DS → R D) : Env → DS → R D := fun η s => (f η s).bind fun d s1 => if notObj d = true then .ok d s1 else .bad
theorem DF.de {e : Expr} {f : Env → DS → R D} (h : DF M X W e f) : DE M X W e (calmD f) := by
  obtain ⟨t, p, h⟩ := h.ex
  refine ⟨t, p, fun A σ H G hs own η s Q I hp => h A σ H G hs own η s Q I ?_⟩
  unfold calmD at hp
  cases q : f η s with
  | ok d s1 =>
    rw [q] at hp
    have hp2 : RPost X.K M σ W G hs H (if notObj d = true then R.ok d s1 else .bad) (fun d G' hs' _ H' => ∀ v, Rep X.K M G' hs' d v → Q v H') := hp
    intro G1 hs1 H1 S1 J1 p hp0 fr
    by_cases hn : notObj d = true
    · rw [if_pos hn] at hp2
      obtain ⟨o, ho, hr⟩ := at_rep fr.g fr.at_ (notObj_of hn) (notDic_of hn)
      exact hp2 _ hs1 H1 (S1.still hp0 fr.g) (J1.still ho fr.h fr.t fr.g (at_no fr.at_ ho)) _ hr
    · rw [if_neg hn] at hp2
      exact hp2.elim
  | ex c p s1 => rw [q] at hp; exact hp
  | bad => rw [q] at hp; exact hp
theorem df_lst (h : DA M X W es g) : DF M X W (.List es pos) (lstD g) := by
  obtain ⟨t, p, h⟩ := h.ex
  refine ⟨_, pe_lst p, fun A σ H G hs own η s Q I hp => ?_⟩
  refine h A σ H G hs own η s _ I (hp.bind.mono fun ds G1 hs1 s1 H1 S1 J1 h1 vs hvs => ?_)
  split at h1
  · rename_i hl
    refine ⟨by rw [line_, ← hvs.length]; exact hl, fun p hp => ?_⟩
    have k : ∀ a u, H1 a = some u → upd H1 p (.lst vs) a = some u := fun a u e => by rw [upd_ne (ne_of_none e hp)]; exact e
    exact h1 _ _ _ (Stp.extH k) (J1.extH k) p (S1.dm p (nt_none hp)) ⟨⟨vs, upd_same, hvs⟩, (J1.free hp).1, (J1.free hp).2.1, (J1.free hp).2.2⟩
  · exact h1.elim
theorem FPost.put {K : PySem.W.Frag} {A : Anc} {σ : L2.St} {H G : Hp} {hs : List Addr} {own : Nat → Addr} {η : Env} {s : DS} {E : Ends} {i : Nat} {d : D} {v : V} (I : Sm K M A σ H G hs own η s) (hr : Rep K M G hs d v) (h : FPost K M A W E (setF η i d s)) : E.nx (σ.set i (some v)) H := by
  unfold setF at h
  split at h
  · rename_i hl
    exact h _ H G hs own (I.set (by rw [← I.el]; exact hl) hr)
  · exact h.elim
theorem ds_set (i : Nat) {x : Str} {e : Expr} {fe : Env → DS → R D} {pos' pos : Pos} (hN : X.N.Nodup) (he : DE M X W e fe) (hi : X.N[i]? = some x := by rfl) (hx : Loc X.env.scope x := by first | exact Or.inl rfl | exact Or.inr rfl)
    (hs : swapsWith e (some (.Name x pos')) pos.line X.env = pure false := by rfl) (hf : X.fn x = true ∨ X.env.scope.names.lookup x = some .local := by first | exact .inl rfl | exact .inr rfl) : DSt M X W (.Assign [.Name x pos'] e pos) (setB i fe) := by
  obtain ⟨t, p, h⟩ := he.ex
  refine ⟨_, ps_set hN hi hx p hs hf, fun A σ H G hs own η s E I hp => ?_⟩
  exact h A σ H G hs own η s _ I ((hp.lift I).mono fun d G1 hs1 s1 H1 S1 J1 h1 v hv => FPost.put (I.step S1 J1) hv h1)
/-- x op= e, x a plain name -/
def augB (i : Nat) (o : D → D → Option D) (fe : Env → DS → R D) : Env → DS → F := setB i (bopD o (vD i) fe)
end
end DL
set_option Elab.async false
set_option linter.all false
set_option maxRecDepth 100000
set_option maxHeartbeats 2000000
namespace DL
open PySem PySem.Spec PyProof.Rows L2
section
variable {M : Mp} {X : Cx} {W : WX}
def opAug : D → D → Option D
  | .int a, .int b => some (.int (a + b))
  | .str a, .str b => if a.length + b.length ≤ 16777216 then some (.str (a ++ b)) else none
  | _, _ => none
noncomputable def opMulI : D → D → Option D
  | .int a, .int b => if (small64 a || small64 b) = true then some (.int (a * b)) else none
  | _, _ => none
abbrev veB : List Value := [.type "ValueError", .type "Exception", .type "BaseException", .type "object"]
structure ExcOk (K : PySem.W.Frag) (mg : Str → Option Value) (M : Mp) (c : Nat) (x : Str) : Prop where
  g : mg x = some (.ref (M.exc c))
  x : PySem.W.excIn K (M.exc c) veB "ValueError.__new__" = true
  k : PySem.W.keepIn K (.ref (M.exc c)) = true
  b : PySem.W.subIn K (.ref (M.exc c)) (.type "BaseException") = some true
  t : PySem.W.typeIn K (.ref (M.exc c)) = some (.type "type")
/-- X(e), e any value -/
theorem pmk_arg {x : Str} {C : Addr} {bmB : List Value} {B newId initId : String} {a : Expr} {ta : TA} {p pos : Pos} (F : ExcBaseFacts B newId initId bmB) (q : PySem.W.excIn X.K C bmB newId = true) (gC : X.mg x = some (.ref C)) (kC : PySem.W.keepIn X.K (.ref C) = true) (r : Raises X (.ref C)) (ha : PA X [a] ta) (hg : Gl X x)
    (hdb : (x == ("__debug__" : Str)) = false := by decide) (he : starEach [a] X.env = (false, eval a X.env) :: starEach [] X.env := by rfl) (hpl : (backTo pos (starEach [] X.env)).any (·.1) = false := by rfl) :
    PMk X (.Call (.Name x p) [a] [] pos) (fun σ H Q => ta σ H fun vs H1 => vs.length = 1 ∧ Q (.ref C) none H1) := by
  intro pins s σ H Q I h
  refine wpAny_Call_Name_kw (ld_glob I hg gC ?_ hdb)
  refine PySem.W.callWith_K (h₀ := X.base) I.ok.mod.kin kC (thn (ha.run pos pins s σ H _ I h) fun us s1 hh => ?_) he hpl
  obtain ⟨vs, H1, I1, r1, ev, q1⟩ := hh
  refine ⟨I1.kIn, ?_⟩
  cases r1 with
  | nil => cases ev
  | cons ru rn =>
    rename_i v u vs' us'
    cases rn with
    | cons _ _ => simp at ev
    | nil =>
    show wpAny _ _ (call (.ref C) [u]) _ _ _
    obtain ⟨bm, N, nm, qn, bs, hdct, sn, sub, ab, col, dd, k0, k1, k2, k3, k5, mN, hC, hN, hni, T⟩ := exc_obj I1.kIn q
    refine wpAny_call_exc_subT F T hC hN hni (fun h' e hm => ?_) (by show 1 ≤ sizeLine; rw [sizeLine_eq]; omega)
    exact mk_of I1 hm r q1 (I1.hok.gone hm.new)
def raiseA (c : Nat) (g : Env → DS → R (List D)) : Env → DS → F := fun η s => (g η s).toF η fun _ s1 => .ex c [] η s1
theorem one_len {f : Env → DS → R D} : ∀ η s ds s', consA f nilA η s = .ok ds s' → ds.length = 1 := by
  intro η s ds s' h
  unfold consA nilA at h
  cases q : f η s with
  | ok d s1 => rw [q] at h; cases h; rfl
  | ex _ _ _ => rw [q] at h; cases h
  | bad => rw [q] at h; cases h
theorem ds_raise {c : Nat} {x : Str} {a : Expr} {g : Env → DS → R (List D)} {p pos pos2 : Pos} (E : ExcOk X.K X.mg M c x) (tk : Takes X W) (hc : X.calm = true) (ha : DA M X W [a] g) (hg : Gl X x := by rfl)
    (hdb : (x == ("__debug__" : Str)) = false := by decide) (he : starEach [a] X.env = (false, eval a X.env) :: starEach [] X.env := by rfl) (hpl : (backTo pos (starEach [] X.env)).any (·.1) = false := by rfl)
    (h1 : ∀ η s ds s', g η s = .ok ds s' → ds.length = 1 := by exact one_len) :
    DSt M X W (.Raise (some (.Call (.Name x p) [a] [] pos)) none pos2) (raiseA c g) := by
  obtain ⟨t, pa, h⟩ := ha.ex
  refine ⟨_, ps_raise hc tk (pmk_arg PySem.F.excBase_ValueError E.x E.g E.k (raises_own E.b E.t) pa hg hdb he hpl), fun A σ H G hs own η s En I hp => ?_⟩
  refine h A σ H G hs own η s _ I ?_
  have hp2 := FPost.lift I hp
  cases q : g η s with
  | ok ds s1 =>
    rw [q] at hp2
    intro G1 hs1 H1 S1 J1 vs hvs
    refine ⟨by rw [← hvs.length]; exact h1 η s ds s1 q, ?_⟩
    exact hp2 G1 hs1 H1 S1 J1 σ H1 G1 hs1 own (.ref (M.exc c)) none (I.step S1 J1) ⟨rfl, .inl ⟨rfl, rfl⟩⟩
  | ex c p s1 => rw [q] at hp2; exact hp2
  | bad => rw [q] at hp2; exact hp2
/-- only those names have changed -/
structure Chg (is : List Nat) (σ σ' : L2.St) : Prop where
  len : σ'.length = σ.length
  out : ∀ j, j ∉ is → σ'[j]? = σ[j]?
theorem Chg.refl (is : List Nat) (σ : L2.St) : Chg is σ σ := ⟨rfl, fun _ _ => rfl⟩
theorem Chg.trans {is js : List Nat} {σ σ1 σ2 : L2.St} (h : Chg is σ σ1) (k : Chg js σ1 σ2) : Chg (is ++ js) σ σ2 := ⟨k.len.trans h.len, fun j n => by
  rw [List.mem_append, not_or] at n
  rw [k.out j n.2, h.out j n.1]⟩
structure DG (M : Mp) (X : Cx) (tg : Expr) (f : D → Env → Option Env) (is : List Nat) : Prop where
  ex : ∃ g, PG X tg g ∧ ∀ (A : Anc) (σ : L2.St) (H G : Hp) (hs : List Addr) (own : Nat → Addr) (η η' : Env) (s : DS) (d : D) (v : V) (Q : L2.St → Hp → Prop), Sm X.K M A σ H G hs own η s → Rep X.K M G hs d v → f d η = some η' →
    (∀ σ', Sm X.K M A σ' H G hs own η' s → Chg is σ σ' → Q σ' H) → g v σ H Q
structure DGs (M : Mp) (X : Cx) (tgs : List Expr) (f : List D → Env → Option Env) (is : List Nat) (n : Nat) : Prop where
  ex : ∃ g, PGs X tgs g ∧ ∀ (A : Anc) (σ : L2.St) (H G : Hp) (hs : List Addr) (own : Nat → Addr) (η η' : Env) (s : DS) (ds : List D) (vs : List V) (Q : L2.St → Hp → Prop), Sm X.K M A σ H G hs own η s → RepL X.K M G hs ds vs → f ds η = some η' →
    (∀ σ', Sm X.K M A σ' H G hs own η' s → Chg is σ σ' → Q σ' H) → g vs σ H Q
  len : ∀ ds η η', f ds η = some η' → ds.length = n
def gN (i : Nat) : D → Env → Option Env := fun d η => if i < η.length then some (η.set i (.v d)) else none
def gsN : List D → Env → Option Env := fun ds η => match ds with
  | [] => some η
  | _ => none
def gsC (f : D → Env → Option Env) (g : List D → Env → Option Env) : List D → Env → Option Env := fun ds η => match ds with
  | d :: r => (f d η).bind (g r)
  | [] => none
def gT (g : List D → Env → Option Env) : D → Env → Option Env := fun d η => match d with
  | .tup ds => g ds η
  | _ => none
theorem dg_name (i : Nat) {x : Str} {pos : Pos} (hN : X.N.Nodup) (hi : X.N[i]? = some x := by rfl) (hx : Loc X.env.scope x := by first | exact Or.inl rfl | exact Or.inr rfl)
    (hf : X.fn x = true ∨ X.env.scope.names.lookup x = some .local := by first | exact .inl rfl | exact .inr rfl) : DG M X (.Name x pos) (gN i) [i] := by
  refine ⟨_, pg_name hN hi hx hf, fun A σ H G hs own η η' s d v Q I hr e k => ?_⟩
  unfold gN at e
  split at e
  · rename_i hl
    cases e
    exact k _ (I.set (by rw [← I.el]; exact hl) hr) ⟨List.length_set, fun j n => List.getElem?_set_ne (fun z => n (by rw [z]; exact List.mem_singleton_self _))⟩
  · cases e
theorem dgs_nil : DGs M X [] gsN [] 0 := by
  refine ⟨⟨_, pgs_nil, fun A σ H G hs own η η' s ds vs Q I hr e k => ?_⟩, fun ds η η' e => ?_⟩
  · unfold gsN at e
    split at e
    · cases e
      exact ⟨repL_nil.mp hr, k _ I (Chg.refl _ _)⟩
    · cases e
  · unfold gsN at e
    split at e
    · rfl
    · cases e
theorem dgs_cons {e : Expr} {es : List Expr} {f : D → Env → Option Env} {g : List D → Env → Option Env} {n : Nat} {is js : List Nat} (h1 : DG M X e f is) (h2 : DGs M X es g js n) (hs : (assignEach (e :: es) X.env).map (·.2) = assign e X.env :: (assignEach es X.env).map (·.2) := by rfl) : DGs M X (e :: es) (gsC f g) (is ++ js) (n + 1) := by
  obtain ⟨t, p, h⟩ := h1.ex
  obtain ⟨u, q, k⟩ := h2.ex
  refine ⟨⟨_, pgs_cons p q hs, fun A σ H G hs own η η' s ds vs Q I hr e kq => ?_⟩, fun ds η η' e => ?_⟩
  · unfold gsC at e
    split at e
    · rename_i d r
      rw [repL_cons] at hr
      obtain ⟨v, vr, rfl, hv, hvr⟩ := hr
      rw [Option.bind_eq_some_iff] at e
      obtain ⟨η1, e1, e2⟩ := e
      exact ⟨v, vr, rfl, h A σ H G hs own η η1 s d v _ I hv e1 fun σ1 I1 c1 => k A σ1 H G hs own η1 η' s r vr Q I1 hvr e2 fun σ2 I2 c2 => kq σ2 I2 (c1.trans c2)⟩
    · cases e
  · unfold gsC at e
    split at e
    · rw [Option.bind_eq_some_iff] at e
      obtain ⟨η1, e1, e2⟩ := e
      rw [List.length_cons, h2.len _ _ _ e2]
    · cases e
theorem dg_tup {es : List Expr} {kk : Nat} {pos : Pos} {g : List D → Env → Option Env} {n : Nat} {is : List Nat} (hc : X.calm = true) (h : DGs M X es g is n) (hn : (assignEach es X.env).length = n := by rfl) (hst : (assignEach es X.env).findIdx? (·.1) = none := by rfl) : DG M X (.Tuple es kk pos) (gT g) is := by
  obtain ⟨t, p, k⟩ := h.ex
  refine ⟨_, pg_tup hc p hn hst, fun A σ H G hs own η η' s d v Q I hr e kq => ?_⟩
  unfold gT at e
  split at e
  · obtain ⟨a, vs, rfl, h1, h2⟩ := rep_tup hr
    exact ⟨a, vs, rfl, same_seqT I.sim.sub h1, by rw [← h2.length]; exact h.len _ _ _ e, k A σ H G hs own η η' s _ vs Q I h2 e fun σ' I' c => kq σ' I' c⟩
  · cases e
/-- targets = e, e a tuple's value -/
def asgB (f : D → Env → Option Env) (fe : Env → DS → R D) : Env → DS → F := fun η s => (fe η s).toF η fun d s1 => match f d η with
  | some η' => .nx η' s1
  | none => .bad
theorem ds_asg {tg e : Expr} {f : D → Env → Option Env} {fe : Env → DS → R D} {pos : Pos} (he : DE M X W e fe) {is : List Nat} (hg : DG M X tg f is) (hs : swapsWithSole [tg] e pos.line X.env = pure false := by rfl) (hw : swappedStores [tg] e X.env = pure none := by rfl)
    (h1 : (assignEach [tg] X.env).map (·.2) = [assign tg X.env] := by rfl) : DSt M X W (.Assign [tg] e pos) (asgB f fe) := by
  obtain ⟨t, p, h⟩ := he.ex
  obtain ⟨g, pg, k⟩ := hg.ex
  refine ⟨_, ps_asg p pg hs hw h1, fun A σ H G hs own η s E I hp => ?_⟩
  refine h A σ H G hs own η s _ I ((hp.lift I).mono fun d G1 hs1 s1 H1 S1 J1 h2 v hv => ?_)
  cases q : f d η with
  | none => rw [q] at h2; exact h2.elim
  | some η' =>
    rw [q] at h2
    exact k A σ H1 G1 hs1 own η η' s1 d v _ (I.step S1 J1) hv q fun σ' I' _ => h2 σ' H1 G1 hs1 own I'
/-- x, y = a, b and three -/
def parB (is : List Nat) (fa : Env → DS → R (List D)) : Env → DS → F := fun η s => (fa η s).toF η fun ds s1 => putAll is ds η s1
where putAll : List Nat → List D → Env → DS → F
  | [], [], η, s => .nx η s
  | i :: is, d :: ds, η, s => if i < η.length then putAll is ds (η.set i (.v d)) s else .bad
  | _, _, _, _ => .bad
end
end DL
set_option Elab.async false
set_option linter.all false
set_option maxRecDepth 100000
set_option maxHeartbeats 2000000
namespace DL
open PySem PySem.Spec PyProof.Rows L2
inductive Plc where
  | slot (i : Nat) | han (k : Nat)
/-- the place stands at that value -/
def PV (own : Nat → Addr) (hs : List Addr) (η : Env) : Plc → V → Prop
  | .slot i, v => v = .ref (own i) ∧ ∃ d, η[i]? = some (.o d)
  | .han k, v => ∃ a, v = .ref a ∧ hs[k]? = some a
theorem PV.step {own : Nat → Addr} {hs hs' : List Addr} {η : Env} (p : Pre hs hs') : ∀ {pl : Plc} {v : V}, PV own hs η pl v → PV own hs' η pl v
  | .slot i, v, h => h
  | .han k, v, ⟨a, h1, h2⟩ => ⟨a, h1, p _ _ h2⟩
def plcD (pl : Plc) (η : Env) (s : DS) : Option D := match pl with
  | .slot i => match η[i]? with
    | some (.o d) => some d
    | _ => none
  | .han k => s[k]?
def plcSet (pl : Plc) (d : D) (η : Env) (s : DS) : F := match pl with
  | .slot i => .nx (η.set i (.o d)) s
  | .han k => .nx η (s.set k d)
def wrF (pl : Plc) (u : D → Option D) (η : Env) (s : DS) : F := match plcD pl η s with
  | some d => match u d with
    | some d' => plcSet pl d' η s
    | none => .bad
  | none => .bad
section
variable {M : Mp} {X : Cx} {W : WX}
structure DP (M : Mp) (X : Cx) (W : WX) (e : Expr) (f : Env → DS → R Plc) : Prop where
  ex : ∃ t, PE X e t ∧ ∀ (A : Anc) (σ : L2.St) (H G : Hp) (hs : List Addr) (own : Nat → Addr) (η : Env) (s : DS) (Q : VK), Sm X.K M A σ H G hs own η s →
    RPost X.K M σ W G hs H (f η s) (fun pl G' hs' _ H' => ∀ v, PV own hs' η pl v → Q v H') → t σ H Q
def plV (i : Nat) : Env → DS → R Plc := fun η s => match η[i]? with
  | some (.o _) => .ok (.slot i) s
  | some (.v (.han k)) => .ok (.han k) s
  | _ => .bad
def plE (f : Env → DS → R D) : Env → DS → R Plc := fun η s => (f η s).bind fun d s1 => match d with
  | .han k => .ok (.han k) s1
  | _ => .bad
theorem dp_v (i : Nat) {x : Str} {pos : Pos} (hN : X.N[i]? = some x := by rfl) (hv : Vis X.env.scope x := by first | exact Or.inl rfl | exact Or.inr (Or.inl rfl) | exact Or.inr (Or.inr rfl)) (hd : (x == ("__debug__" : Str)) = false := by decide)
    (hcd : (x == ("__classdict__" : Str)) = false := by decide) : DP M X W (.Name x pos) (plV i) := by
  refine ⟨_, pe_var hN hv hd hcd, fun A σ H G hs own η s Q I r => ?_⟩
  unfold plV at r
  split at r
  · rename_i d e
    exact ⟨_, (I.ow i d e).1, r G hs H (Stp.refl _ _ _ _) I.sim _ ⟨rfl, d, e⟩⟩
  · rename_i k e
    obtain ⟨v, h1, h2⟩ := I.pl i _ e
    exact ⟨v, h1, r G hs H (Stp.refl _ _ _ _) I.sim _ (rep_han.mp h2)⟩
  · exact r.elim
theorem same_upd2 {G H : Hp} {a : Addr} {o : HO} (h : Same G H) (g : G a = none) : Same G (upd H a o) := fun b u e => by
  rw [upd_ne (ne_of_none e g)]
  exact h _ _ e
theorem RepAt.upd {K : PySem.W.Frag} {G H : Hp} {hs : List Addr} {a b : Addr} {d : D} {o : HO} (h : At K M G hs H b d) (n : b ≠ a) : At K M G hs (upd H a o) b d := h.mono (fun _ _ z => z) (Pre.refl _) (upd_ne n)
/-- a code object or a table -/
abbrev tb2 : (Heap → Prop) ⊕ Array Value → HO
  | .inl f => .ext f
  | .inr ps => .tbl ps
theorem at_nx {K : PySem.W.Frag} {M : Mp} {G H : Hp} {hs : List Addr} {a : Addr} : ∀ {d : D}, At K M G hs H a d → ∀ f, H a ≠ some (tb2 f)
  | .lst ds, ⟨vs, h1, h2⟩, f => by rw [h1]; exact fun z => by cases f <;> cases z
  | .dic kvs, ⟨vs, h1, h2⟩, f => by rw [h1]; exact fun z => by cases f <;> cases z
  | .dit kvs, ⟨vs, h1, h2⟩, f => by rw [h1]; exact fun z => by cases f <;> cases z
  | .obj c ds, ⟨dx, fs, h1, h2, h3⟩, f => by rw [h1]; exact fun z => by cases f <;> cases z
theorem tabs_upd {M : Mp} {H : Hp} {a : Addr} {o : HO} (h : TabsX M.tabs H) (n : ¬ inTab M a) (x : ∀ f, H a ≠ some (tb2 f)) : TabsX M.tabs (upd H a o) := by
  have e1 : ∀ {b f}, H b = some (tb2 f) → upd H a o b = some (tb2 f) := fun {b f} e => by
    rw [upd_ne (fun z => x f (by rw [← z]; exact e))]
    exact e
  have e2 : ∀ {b ps}, H b = some (.tbl ps) → upd H a o b = some (.tbl ps) := fun {b ps} e => e1 (f := .inr ps) e
  have kid : ∀ {P nm}, NdefX.TabN H P nm → NdefX.TabN (upd H a o) P nm := fun {P nm} ⟨ps, q1, q2, q3⟩ => ⟨ps, e2 q1, q2, fun pos cv hc => by
    obtain ⟨c, r1, r2⟩ := q3 pos cv hc
    exact ⟨c, r1, e1 (f := .inl _) r2⟩⟩
  refine ⟨fun p hp => ?_, fun c P q z => e1 (f := .inl _) (h.2 c P q z)⟩
  obtain ⟨ps, q1, q2, q3⟩ := h.1 p hp
  refine ⟨ps, e2 q1, q2, fun pos cv hc => ?_⟩
  obtain ⟨c, r1, r2⟩ := q3 pos cv hc
  refine ⟨c, r1, ?_⟩
  rcases r2 with ⟨k, r2⟩ | ⟨k, P, r2, r3, r4⟩
  · exact .inl ⟨k, e1 (f := .inl _) r2⟩
  · exact .inr ⟨k, P, e1 (f := .inl _) r2, r3, kid r4⟩
theorem at_tbl {K : PySem.W.Frag} {M : Mp} {G H : Hp} {hs : List Addr} {a : Addr} {d : D} {o : HO} (h : At K M G hs (upd H a o) a d) : ∀ ps, o ≠ .tbl ps := by
  obtain ⟨u, e, n⟩ := At.some h
  rw [upd_same] at e
  cases e
  exact n
/-- an object of one's own is written -/
theorem Sm.wr {K : PySem.W.Frag} {A : Anc} {σ : L2.St} {H G : Hp} {hs : List Addr} {own : Nat → Addr} {η : Env} {s : DS} {i : Nat} {d d' : D} {o : HO} (I : Sm K M A σ H G hs own η s) (e : η[i]? = some (.o d)) (h : At K M G hs (upd H (own i) o) (own i) d') :
    Sm K M A σ (upd H (own i) o) G hs own (η.set i (.o d')) s := by
  obtain ⟨h1, h2, h3, h4, h5, h6⟩ := I.ow i d e
  refine ⟨⟨same_upd2 I.sim.sub h3, I.sim.len, I.sim.nd, I.sim.hG, fun k a d2 e1 e2 => ?_, tabs_upd I.sim.tab h5 (at_nx h2), I.sim.tG⟩, ⟨I.stp.gg, I.stp.fr, I.stp.hp, I.stp.hf, fun a u q n t => ?_, fun a q => ?_⟩, fun j d2 ej => ?_, fun j d2 ej => ?_, fun j k d1 d2 e1 e2 => ?_, by rw [List.length_set]; exact I.el, fun x d2 ex e2 => ?_⟩
  · exact RepAt.upd (I.sim.han k a d2 e1 e2) fun z => h4 (by rw [← z]; exact List.mem_of_getElem? e1)
  · rw [upd_ne (fun z => h6.no (by rw [← z]; exact q) t)]
    exact I.stp.kp a u q n t
  · by_cases z : a = own i
    · rw [z]; exact h6
    · exact I.stp.dm a fun u e => q u (by rw [upd_ne z]; exact e)
  · rcases set_get ej with ⟨rfl, q⟩ | ⟨hji, q⟩
    · cases q
    · exact I.pl j d2 q
  · rcases set_get ej with ⟨rfl, q⟩ | ⟨hji, q⟩
    · cases q
      exact ⟨h1, h, h3, h4, h5, h6⟩
    · obtain ⟨k1, k2, k3, k4, k5, k6⟩ := I.ow j d2 q
      exact ⟨k1, RepAt.upd k2 (fun z => hji (I.inj j i d2 d q e z)), k3, k4, k5, k6⟩
  · rcases set_get e1 with ⟨r1, q⟩ | ⟨r1, q⟩
    · rcases set_get e2 with ⟨r2, q2⟩ | ⟨r2, q2⟩
      · rw [r1, r2]; exact fun _ => rfl
      · rw [r1]; exact I.inj i k d d2 e q2
    · rcases set_get e2 with ⟨r2, q2⟩ | ⟨r2, q2⟩
      · rw [r2]; exact I.inj j i d1 d q e
      · exact I.inj j k d1 d2 q q2
  · rcases set_get e2 with ⟨r2, q2⟩ | ⟨r2, q2⟩
    · rw [← r2] at e; exact I.sf x d ex e
    · exact I.sf x d2 ex q2
/-- a handle's object is written -/
theorem Sim.wr {K : PySem.W.Frag} {H G : Hp} {hs : List Addr} {s : DS} {k : Nat} {a : Addr} {d d' : D} {o : HO} (J : Sim K M G hs s H) (ha : hs[k]? = some a) (e : s[k]? = some d) (h : At K M G hs (upd H a o) a d') :
    Stp M G hs H G hs (upd H a o) ∧ Sim K M G hs (s.set k d') (upd H a o) := by
  have hm : a ∈ hs := List.mem_of_getElem? ha
  have hH : ∃ u, H a = some u := by
    obtain ⟨u, q, _⟩ := J.hanS hm
    exact ⟨u, q⟩
  refine ⟨⟨fun _ _ z => z, fun _ _ z => .inl z, Pre.refl _, fun _ z => .inl z, fun b u q n t => ?_, fun b q => ?_⟩, ⟨same_upd2 J.sub (J.hG a hm), by rw [List.length_set]; exact J.len, J.nd, J.hG, fun j b d2 e1 e2 => ?_, tabs_upd J.tab (fun z => ?_) (at_nx (J.han k a d ha e)), J.tG⟩⟩
  · rw [upd_ne (fun z => n (by rw [z]; exact hm))]
    exact q
  · by_cases z : b = a
    · subst z
      exact (q.no upd_same (at_tbl h)).elim
    · exact fun u e => q u (by rw [upd_ne z]; exact e)
  · by_cases hj : j = k
    · subst hj
      rw [ha] at e1
      cases e1
      rw [List.getElem?_set_self (List.getElem?_eq_some_iff.mp e).1] at e2
      cases e2
      exact h
    · rw [List.getElem?_set_ne (Ne.symm hj)] at e2
      refine RepAt.upd (J.han j b d2 e1 e2) fun z => hj ?_
      subst z
      exact (List.getElem?_inj (List.getElem?_eq_some_iff.mp e1).1 J.nd).mp (e1.trans ha.symm)
  · obtain ⟨ps, q1⟩ := J.tabS z
    obtain ⟨u, q3, q4⟩ := J.hanS hm
    rw [q1] at q3
    exact q4 ps (Option.some.inj q3).symm
/-- a place is written -/
theorem wr_post {A : Anc} {σ : L2.St} {H G : Hp} {hs : List Addr} {own : Nat → Addr} {η : Env} {s : DS} {E : Ends} {pl : Plc} {v : V} {u : D → Option D} (I : Sm X.K M A σ H G hs own η s) (hv : PV own hs η pl v) (hp : FPost X.K M A W E (wrF pl u η s)) :
    ∃ a d d', v = .ref a ∧ At X.K M G hs H a d ∧ u d = some d' ∧ plcD pl η s = some d ∧ ∀ o, At X.K M G hs (upd H a o) a d' → E.nx σ (upd H a o) := by
  unfold wrF at hp
  split at hp
  · rename_i d ed
    split at hp
    · rename_i d' eu
      cases pl with
      | slot i =>
        obtain ⟨rfl, d0, e0⟩ := hv
        have ed2 : η[i]? = some (.o d) := by
          simp only [plcD, e0] at ed
          rw [e0, Option.some.inj ed]
        exact ⟨_, d, d', rfl, (I.ow i d ed2).2.1, eu, ed, fun o ho => hp σ _ G hs own (I.wr ed2 ho)⟩
      | han k =>
        obtain ⟨a, rfl, ha⟩ := hv
        have ed2 : s[k]? = some d := ed
        exact ⟨a, d, d', rfl, I.sim.han k a d ha ed2, eu, ed, fun o ho => by
          obtain ⟨S1, J1⟩ := I.sim.wr ha ed2 ho
          exact hp σ _ G hs own (I.step S1 J1)⟩
    · exact hp.elim
  · exact hp.elim
def appU : List D → D → Option D
  | [x], .lst ds => if ds.length < 16777216 then some (.lst (ds ++ [x])) else none
  | _, _ => none
def isLst : D → Bool
  | .lst _ => true
  | _ => false
/-- o.m(e, ..) that writes o -/
def mtB (ty : D → Bool) (fp : Env → DS → R Plc) (fa : Env → DS → R (List D)) (u : List D → D → Option D) : Env → DS → F := fun η s => (fp η s).toF η fun pl s1 => match plcD pl η s1 with
  | some d0 => if ty d0 = true then (fa η s1).toF η fun ds s2 => wrF pl (u ds) η s2 else .bad
  | none => .bad
end
end DL
set_option Elab.async false
set_option linter.all false
set_option maxRecDepth 100000
set_option maxHeartbeats 2000000
namespace DL
open PySem PySem.Spec PyProof.Rows L2
section
variable {M : Mp} {X : Cx} {W : WX}
structure StI (M : Mp) (X : Cx) (u : D → D → D → Option D) : Prop where
  ex : ∃ r, PSet X r ∧ ∀ (G H : Hp) (hs : List Addr) (a : Addr) (d d' i x : D) (vi vx : V) (Q : Hp → Prop), Same G H → At X.K M G hs H a d → Rep X.K M G hs i vi → Rep X.K M G hs x vx → u i x d = some d' →
    (∀ o, At X.K M G hs (upd H a o) a d' → Q (upd H a o)) → r (.ref a) vi vx H Q
def setL : D → D → D → Option D
  | .int k, x, .lst ds => (ixN ds.length k).map fun j => .lst (ds.set j x)
  | _, _, _ => none
theorem si_list : StI M X setL := by
  refine ⟨_, set_list, fun G H hs a d d' i x vi vx Q sm h hi hx e k => ?_⟩
  unfold setL at e
  split at e
  · rename_i n ds
    obtain ⟨ws, h1, h2⟩ := h
    rw [Option.map_eq_some_iff] at e
    obtain ⟨j, ej, e2⟩ := e
    subst e2
    rw [rep_int] at hi
    exact ⟨a, ws, n, j, rfl, hi, h1, by rw [← h2.length]; exact ej, k _ ⟨_, upd_same, h2.set j hx⟩⟩
  · cases e
def getL : D → D → Option D
  | .int k, .lst ds => atI ds k
  | _, _ => none
def stB (fe : Env → DS → R D) (fp : Env → DS → R Plc) (fi : Env → DS → R D) (u : D → D → D → Option D) : Env → DS → F := fun η s => (fe η s).toF η fun x s1 => (fp η s1).toF η fun pl s2 => (fi η s2).toF η fun i s3 => wrF pl (u i x) η s3
theorem ds_st {o i e : Expr} {fp : Env → DS → R Plc} {fi fe : Env → DS → R D} {u : D → D → D → Option D} {tpos pos : Pos} (he : DE M X W e fe) (ho : DP M X W o fp) (hi : DE M X W i fi) (hw : StI M X u)
    (ha : ∀ v, assign (.Subscript o i tpos) X.env v = (do
      let ov ← holding [v] (eval o X.env)
      let iv ← holding [v, ov] (eval i X.env)
      standAt tpos
      holding [v, ov, iv] (setItem ov iv v)
      release [v, ov, iv] []) := by intro _; rfl)
    (hs : swapsWithSole [.Subscript o i tpos] e pos.line X.env = pure false := by rfl) (hsw : swappedStores [.Subscript o i tpos] e X.env = pure none := by rfl)
    (h1 : (assignEach [.Subscript o i tpos] X.env).map (·.2) = [assign (.Subscript o i tpos) X.env] := by rfl) : DSt M X W (.Assign [.Subscript o i tpos] e pos) (stB fe fp fi u) := by
  obtain ⟨t, p, h⟩ := he.ex
  obtain ⟨t2, p2, k2⟩ := ho.ex
  obtain ⟨t3, p3, k3⟩ := hi.ex
  obtain ⟨r, hr, kw⟩ := hw.ex
  refine ⟨_, ps_asg p (pg_sub p2 p3 hr ha) hs hsw h1, fun A σ H G hs own η s E I hp => ?_⟩
  refine h A σ H G hs own η s _ I ((hp.lift I).mono fun x G1 hs1 s1 H1 S1 J1 q1 vx hvx => ?_)
  have I1 := I.step S1 J1
  refine k2 A σ H1 G1 hs1 own η s1 _ I1 ((q1.lift I1).mono fun pl G2 hs2 s2 H2 S2 J2 q2 v hv => ?_)
  have I2 := I1.step S2 J2
  refine k3 A σ H2 G2 hs2 own η s2 _ I2 ((q2.lift I2).mono fun d G3 hs3 s3 H3 S3 J3 q3 vi hvi => ?_)
  have I3 := I2.step S3 J3
  obtain ⟨a, d, d', rfl, hat, eu, _, kk⟩ := wr_post I3 (hv.step S3.hp) q3
  exact kw G3 H3 hs3 a d d' _ x vi vx _ J3.sub hat hvi (hvx.mono (S2.gg.trans S3.gg) (S2.hp.trans S3.hp)) eu kk
def stAugB (fp : Env → DS → R Plc) (fi : Env → DS → R D) (g : D → D → Option D) (o : D → D → Option D) (fe : Env → DS → R D) (u : D → D → D → Option D) : Env → DS → F := fun η s =>
  (fp η s).toF η fun pl s1 => (fi η s1).toF η fun i s2 => match (plcD pl η s2).bind (g i) with
    | some x => (fe η s2).toF η fun y s3 => match o (deref s3 x) (deref s3 y) with
      | some z => wrF pl (u i z) η s3
      | none => .bad
    | none => .bad
theorem PV.at_ {A : Anc} {σ : L2.St} {H G : Hp} {hs : List Addr} {own : Nat → Addr} {η : Env} {s : DS} {pl : Plc} {v : V} {d0 : D} (I : Sm X.K M A σ H G hs own η s) (hv : PV own hs η pl v) (ed0 : plcD pl η s = some d0) : ∃ a, v = .ref a ∧ At X.K M G hs H a d0 := by
  cases pl with
  | slot i =>
    obtain ⟨rfl, d1, e1⟩ := hv
    simp only [plcD, e1] at ed0
    cases ed0
    exact ⟨_, rfl, (I.ow i _ e1).2.1⟩
  | han k =>
    obtain ⟨a, rfl, ha⟩ := hv
    exact ⟨a, rfl, I.sim.han k a d0 ha ed0⟩
def fldU (c j : Nat) (x : D) : D → Option D
  | .obj c' ds => if c' = c ∧ j ≤ ds.length then some (.obj c (if j < ds.length then ds.set j x else ds ++ [x])) else none
  | _ => none
theorem putF_keys : ∀ {fs : List (Str × V)} {j : Nat} {f : Str} {v : V}, (fs.map (·.1)).Nodup → (fs.map (·.1))[j]? = some f → (putF f v fs).map (·.1) = fs.map (·.1) ∧ (putF f v fs).map (·.2) = (fs.map (·.2)).set j v
  | [], _, _, _, _, h => by simp at h
  | (g, w) :: fs, 0, f, v, _, h => by
    simp at h
    subst h
    simp [putF]
  | (g, w) :: fs, j + 1, f, v, nd, h => by
    rw [List.map_cons, List.nodup_cons] at nd
    have h3 : (fs.map (·.1))[j]? = some f := by simpa using h
    have hne : ¬ g = f := fun e => nd.1 (by rw [e]; exact List.mem_of_getElem? h3)
    obtain ⟨q1, q2⟩ := putF_keys (v := v) nd.2 h3
    refine ⟨?_, ?_⟩
    · rw [putF, if_neg hne, List.map_cons, q1, List.map_cons]
    · rw [putF, if_neg hne, List.map_cons, q2, List.map_cons, List.set_cons_succ]
theorem putF_new : ∀ {fs : List (Str × V)} {f : Str} {v : V}, f ∉ fs.map (·.1) → putF f v fs = fs ++ [(f, v)]
  | [], _, _, _ => rfl
  | (g, w) :: fs, f, v, h => by
    rw [List.map_cons, List.mem_cons, not_or] at h
    rw [putF, if_neg (fun e => h.1 e.symm), putF_new h.2]
    rfl
theorem at_fld {K : PySem.W.Frag} {G H : Hp} {hs : List Addr} {a : Addr} {c j : Nat} {f : Str} {d d' x : D} {vx : V} (C : ClsOk K M c) (hf : (M.flds c)[j]? = some f) (h : At K M G hs H a d) (hx : Rep K M G hs x vx) (e : fldU c j x d = some d') :
    ∃ dx fs, H a = some (.ins (M.cls c) dx fs) ∧ fs.length < 1000 ∧ At K M G hs (upd H a (.ins (M.cls c) dx (putF f vx fs))) a d' := by
  unfold fldU at e
  split at e
  · rename_i c' ds
    split at e
    · rename_i hc
      obtain ⟨rfl, hj⟩ := hc
      cases e
      obtain ⟨dx, fs, h1, h2, h3⟩ := h
      have hjl : j < (M.flds c').length := (List.getElem?_eq_some_iff.mp hf).1
      have hle : (fs.map (·.1)).length ≤ (M.flds c').length := by rw [h2, List.length_take]; omega
      have hfl : fs.length = ds.length := by rw [h3.length, List.length_map]
      refine ⟨dx, fs, h1, by rw [List.length_map] at hle; have := C.few; omega, dx, putF f vx fs, upd_same, ?_⟩
      split
      · rename_i hlt
        have hk : (fs.map (·.1))[j]? = some f := by rw [h2, List.getElem?_take_of_lt hlt]; exact hf
        obtain ⟨q1, q2⟩ := putF_keys (v := vx) (by rw [h2]; exact C.nd.sublist (List.take_sublist _ _)) hk
        rw [q1, q2, List.length_set]
        exact ⟨h2, h3.set j hx⟩
      · rename_i hlt
        have hje : j = ds.length := by omega
        have hn : f ∉ fs.map (·.1) := fun z => by
          rw [h2] at z
          obtain ⟨i, hi, ei⟩ := List.getElem_of_mem z
          rw [List.length_take] at hi
          rw [List.getElem_take] at ei
          have hij : i = j := (List.getElem?_inj (by omega) C.nd).mp (by rw [hf, List.getElem?_eq_getElem (by omega), ei])
          omega
        rw [putF_new hn, List.map_append, List.map_append, h2, List.length_append]
        refine ⟨?_, h3.append (repL_cons.mpr ⟨vx, [], rfl, hx, repL_nil.mpr rfl⟩)⟩
        have := List.take_succ (l := M.flds c') (i := j)
        rw [hf] at this
        rw [← hje]
        exact this.symm
    · cases e
  · cases e
def fldB (c j : Nat) (fe : Env → DS → R D) (fp : Env → DS → R Plc) : Env → DS → F := fun η s => (fe η s).toF η fun x s1 => (fp η s1).toF η fun pl s2 => wrF pl (fldU c j x) η s2
theorem ds_fld {o e : Expr} {c j : Nat} {f : Str} {fp : Env → DS → R Plc} {fe : Env → DS → R D} {pos' pos : Pos} (C : ClsOk X.K M c) (ho : DP M X W o fp) (he : DE M X W e fe) (hf : (M.flds c)[j]? = some f := by rfl) (hs : swapsWith e (some (.Attribute o f pos')) pos.line X.env = pure false := by rfl) :
    DSt M X W (.Assign [.Attribute o f pos'] e pos) (fldB c j fe fp) := by
  obtain ⟨t, p, h⟩ := he.ex
  obtain ⟨t2, p2, k2⟩ := ho.ex
  refine ⟨_, ps_fld p2 p hs, fun A σ H G hs own η s E I hp => ?_⟩
  refine h A σ H G hs own η s _ I ((hp.lift I).mono fun x G1 hs1 s1 H1 S1 J1 q1 vx hvx => ?_)
  have I1 := I.step S1 J1
  refine k2 A σ H1 G1 hs1 own η s1 _ I1 ((q1.lift I1).mono fun pl G2 hs2 s2 H2 S2 J2 q2 v hv => ?_)
  have I2 := I1.step S2 J2
  obtain ⟨a, d, d', rfl, hat, eu, _, kk⟩ := wr_post I2 hv q2
  obtain ⟨dx, fs, e1, e2, e3⟩ := at_fld C hf hat (hvx.mono S2.gg S2.hp) eu
  exact ⟨a, _, dx, fs, rfl, e1, C.cl, C.no f (List.mem_of_getElem? hf), e2, kk _ e3⟩
def fldAugB (c j : Nat) (fp : Env → DS → R Plc) (oo : D → D → Option D) (fe : Env → DS → R D) : Env → DS → F := fun η s =>
  (fp η s).toF η fun pl s1 => match (plcD pl η s1).bind (fldO c j) with
    | some x => (fe η s1).toF η fun y s2 => match oo (deref s2 x) (deref s2 y) with
      | some z => wrF pl (fldU c j z) η s2
      | none => .bad
    | none => .bad
theorem Sim.newHan {K : PySem.W.Frag} {G H : Hp} {hs : List Addr} {s : DS} {d : D} {p : Addr} (J : Sim K M G hs s H) (h : Fr1 K M G hs H d p) : Sim K M G (hs ++ [p]) (s ++ [d]) H := by
  refine ⟨J.sub, by rw [List.length_append, List.length_append, J.len]; rfl, ?_, fun a ha => ?_, fun k a d2 e1 e2 => ?_, J.tab, J.tG⟩
  · exact List.nodup_append.mpr ⟨J.nd, List.nodup_cons.mpr ⟨List.not_mem_nil, List.nodup_nil⟩, fun a ha b hb e => by
      rw [List.mem_singleton] at hb
      exact h.h (by rw [← hb, ← e]; exact ha)⟩
  · rcases List.mem_append.mp ha with z | z
    · exact J.hG a z
    · rw [List.mem_singleton] at z
      rw [z]; exact h.g
  · by_cases hk : k < hs.length
    · rw [List.getElem?_append_left hk] at e1
      rw [List.getElem?_append_left (by rw [← J.len]; exact hk)] at e2
      exact (J.han k a d2 e1 e2).mono (fun _ _ z => z) (Pre.snoc _ _) rfl
    · rw [List.getElem?_append_right (by omega)] at e1
      rw [List.getElem?_append_right (by rw [← J.len]; omega)] at e2
      have hk2 : k - hs.length = 0 := by
        have := (List.getElem?_eq_some_iff.mp e1).1
        simp at this
        omega
      rw [hk2] at e1
      rw [← J.len, hk2] at e2
      simp at e1 e2
      subst e1 e2
      exact h.at_.mono (fun _ _ z => z) (Pre.snoc _ _) rfl
theorem Stp.newHan {G G' H H' : Hp} {hs hs' : List Addr} {p : Addr} (S : Stp M G hs H G' hs' H') (h : Nt H p) : Stp M G hs H G' (hs' ++ [p]) H' :=
  ⟨S.gg, S.fr, S.hp.trans (Pre.snoc _ _), fun a ha => by
    rcases List.mem_append.mp ha with z | z
    · exact S.hf a z
    · rw [List.mem_singleton] at z
      rw [z]; exact .inr h, S.kp, S.dm⟩
def hanD (f : Env → DS → R D) : Env → DS → R D := fun η s => (f η s).bind fun d s1 => .ok (.han s1.length) (s1 ++ [d])
theorem DF.han {e : Expr} {f : Env → DS → R D} (h : DF M X W e f) : DE M X W e (hanD f) := by
  obtain ⟨t, p, h⟩ := h.ex
  refine ⟨t, p, fun A σ H G hs own η s Q I hp => h A σ H G hs own η s Q I ?_⟩
  unfold hanD at hp
  cases q : f η s with
  | ok d s1 =>
    rw [q] at hp
    have hp2 : RPost X.K M σ W G hs H (R.ok (D.han s1.length) (s1 ++ [d])) (fun d G' hs' _ H' => ∀ v, Rep X.K M G' hs' d v → Q v H') := hp
    intro G1 hs1 H1 S1 J1 p hp0 fr
    exact hp2 G1 (hs1 ++ [p]) H1 (S1.newHan hp0) (J1.newHan fr) (.ref p) (rep_han.mpr ⟨p, rfl, by rw [← J1.len]; simp⟩)
  | ex c p s1 => rw [q] at hp; exact hp
  | bad => rw [q] at hp; exact hp
end
end DL
set_option Elab.async false
set_option linter.all false
set_option maxRecDepth 100000
set_option maxHeartbeats 2000000
namespace DL
open PySem PySem.Spec PyProof.Rows L2
section
variable {M : Mp} {X : Cx} {W : WX} {K : PySem.W.Frag}
structure AncLe (K : PySem.W.Frag) (M : Mp) (A A' : Anc) : Prop where
  st : ∀ G hs H, Stp M A'.G A'.hs A'.H G hs H → Stp M A.G A.hs A.H G hs H
  no : ∀ a, Nt A'.H a → Nt A.H a
  sf : A'.slf = A.slf
theorem AncLe.sm {A A' : Anc} {σ : L2.St} {H G : Hp} {hs : List Addr} {own : Nat → Addr} {η : Env} {s : DS} (h : AncLe K M A A') (I : Sm K M A' σ H G hs own η s) : Sm K M A σ H G hs own η s :=
  ⟨I.sim, h.st _ _ _ I.stp, I.pl, fun i d e => by
    obtain ⟨h1, h2, h3, h4, h5, h6⟩ := I.ow i d e
    exact ⟨h1, h2, h3, h4, h5, h.no _ h6⟩, I.inj, I.el, fun x d e => I.sf x d (by rw [h.sf]; exact e)⟩
theorem AncLe.post {A A' : Anc} {E : Ends} {r : F} (h : AncLe K M A A') (p : FPost K M A W E r) : FPost K M A' W E r := by
  cases r with
  | nx η s => exact fun σ H G hs own I => p σ H G hs own (h.sm I)
  | rt d s => exact fun H G hs v S => p H G hs v (h.st _ _ _ S)
  | bk η s => exact fun σ H G hs own I => p σ H G hs own (h.sm I)
  | ct η s => exact fun σ H G hs own I => p σ H G hs own (h.sm I)
  | ex c q η s => exact fun σ H G hs own cls dx I => p σ H G hs own cls dx (h.sm I)
  | bad => exact p
open Classical in
theorem Sm.anew {A : Anc} {σ : L2.St} {H G : Hp} {hs : List Addr} {own : Nat → Addr} {η : Env} {s : DS} (I : Sm K M A σ H G hs own η s) : ∃ A' : Anc, A'.G = G ∧ A'.hs = hs ∧ AncLe K M A A' ∧ Sm K M A' σ H G hs own η s := by
  let P : Addr → Prop := fun a => ∃ i d, η[i]? = some (.o d) ∧ own i = a
  have hP : ∀ a, P a → Nt A.H a := fun a ⟨i, d, e, z⟩ => by
    obtain ⟨_, _, _, _, _, h6⟩ := I.ow i d e
    rw [← z]; exact h6
  have dm : ∀ a, Nt (fun a => if P a then none else H a) a → Nt A.H a := fun a e => by
    by_cases p : P a
    · exact hP a p
    · exact I.stp.dm a fun o q => e o (by dsimp only; rw [if_neg p]; exact q)
  refine ⟨⟨G, hs, fun a => if P a then none else H a, A.slf⟩, rfl, rfl, ⟨fun G2 hs2 H2 S => ⟨I.stp.gg.trans S.gg, fun a o e => ?_, I.stp.hp.trans S.hp, fun a ha => ?_, fun a o e n t => ?_, fun a e => dm a (S.dm a e)⟩, dm, rfl⟩, I.sim, ⟨fun _ _ h => h, fun _ _ h => .inl h, Pre.refl _, fun _ h => .inl h, fun a o e _ _ => ?_, fun a e => ?_⟩, I.pl, fun i d e => ?_, I.inj, I.el, I.sf⟩
  · rcases S.fr a o e with z | z
    · exact I.stp.fr a o z
    · refine .inr ?_
      rcases z with z | ⟨⟨vs, z, fo⟩, n⟩
      · exact .inl (dm a z)
      · refine I.stp.back (.inr ⟨⟨vs, ?_, fo⟩, n⟩)
        dsimp only at z
        split at z
        · cases z
        · exact z
  · rcases S.hf a ha with z | z
    · exact I.stp.hf a z
    · exact .inr (dm a z)
  · have n2 : a ∉ hs := fun z => by
      rcases I.stp.hf a z with q | q
      · exact n q
      · exact q.no e t
    refine S.kp a o ?_ n2 t
    dsimp only
    rw [if_neg (fun p => (hP a p).no e t)]
    exact I.stp.kp a o e n t
  · dsimp only at e
    split at e
    · cases e
    · exact e
  · intro o q
    dsimp only at q
    split at q
    · cases q
    · exact e o q
  · obtain ⟨h1, h2, h3, h4, h5, h6⟩ := I.ow i d e
    refine ⟨h1, h2, h3, h4, h5, nt_none ?_⟩
    dsimp only
    rw [if_pos ⟨i, d, e, rfl⟩]
/-- J yields ds, whatever is done meanwhile to what may be written -/
def ItC (K : PySem.W.Frag) (M : Mp) (G : Hp) (hs : List Addr) (J : It) (ds : List D) : Prop := ∀ (G2 : Hp) (hs2 : List Addr) (s2 : DS) (H2 : Hp), Same G G2 → Pre hs hs2 → Sim K M G2 hs2 s2 H2 → ∀ i : Nat,
  (ds[i]? = none → J.stop i H2) ∧ ∀ d, ds[i]? = some d → J.go i H2 ∧ ∀ x H', J.yld i H2 x H' → ∃ G', Stp M G2 hs2 H2 G' hs2 H' ∧ Sim K M G' hs2 s2 H' ∧ Rep K M G' hs2 d x
/-- .. if nothing is written -/
def ItS (K : PySem.W.Frag) (M : Mp) (G : Hp) (hs : List Addr) (H : Hp) (J : It) (ds : List D) : Prop := ∀ (G2 : Hp) (hs2 : List Addr) (s2 : DS) (H2 : Hp), Stp M G hs H G2 hs2 H2 → Sim K M G2 hs2 s2 H2 → ∀ i : Nat,
  (ds[i]? = none → J.stop i H2) ∧ ∀ d, ds[i]? = some d → J.go i H2 ∧ ∀ x H', J.yld i H2 x H' → ∃ G', Stp M G2 hs2 H2 G' hs2 H' ∧ Sim K M G' hs2 s2 H' ∧ Rep K M G' hs2 d x
theorem ItC.s {G H : Hp} {hs : List Addr} {J : It} {ds : List D} (h : ItC K M G hs J ds) : ItS K M G hs H J ds := fun G2 hs2 s2 H2 S => h G2 hs2 s2 H2 S.gg S.hp
structure DI (M : Mp) (X : Cx) (W : WX) (tg e : Expr) (f : Env → DS → R (List D)) : Prop where
  ex : ∃ wi, PI X tg e wi ∧ ∀ (A : Anc) (σ : L2.St) (H G : Hp) (hs : List Addr) (own : Nat → Addr) (η : Env) (s : DS) (Q : It → Hp → Prop), Sm X.K M A σ H G hs own η s →
    RPost X.K M σ W G hs H (f η s) (fun ds G' hs' _ H' => ∀ J, ItC X.K M G' hs' J ds → Q J H') → wi σ H Q
structure DIS (M : Mp) (X : Cx) (W : WX) (tg e : Expr) (f : Env → DS → R (List D)) : Prop where
  ex : ∃ wi, PI X tg e wi ∧ ∀ (A : Anc) (σ : L2.St) (H G : Hp) (hs : List Addr) (own : Nat → Addr) (η : Env) (s : DS) (Q : It → Hp → Prop), Sm X.K M A σ H G hs own η s →
    RPost X.K M σ W G hs H (f η s) (fun ds G' hs' _ H' => ∀ J, ItS X.K M G' hs' H' J ds → Q J H') → wi σ H Q
theorem DI.s {tg e : Expr} {f : Env → DS → R (List D)} (h : DI M X W tg e f) : DIS M X W tg e f := by
  obtain ⟨wi, p, k⟩ := h.ex
  exact ⟨wi, p, fun A σ H G hs own η s Q I r => k A σ H G hs own η s Q I (r.mono fun ds G1 hs1 s1 H1 _ _ q J j => q J j.s)⟩
def lstO : D → Option (List D)
  | .lst l => some l
  | _ => none
def scrO : D → Option (List D)
  | .scr l => some (l.map D.int)
  | .lst l => some l
  | _ => none
def tupO : D → Option (List D)
  | .tup l => some l
  | _ => none
theorem itl_c {G : Hp} {hs : List Addr} {a : Addr} {vs : List V} {ds : List D} (h : ∀ G2 H2, Same G G2 → Same G2 H2 → SqL K H2 a vs) (hr : RepL K M G hs ds vs) : ItC K M G hs (Itl K a) ds := by
  intro G2 hs2 s2 H2 gg pp J2 i
  have hq := h G2 H2 gg J2.sub
  refine ⟨fun e => ⟨vs, hq, ?_⟩, fun d e => ?_⟩
  · rw [← hr.length]; exact List.getElem?_eq_none_iff.mp e
  · obtain ⟨v, e1, e2⟩ := hr.get e
    refine ⟨⟨vs, v, hq, e1⟩, fun x H' y => ?_⟩
    obtain ⟨rfl, y⟩ := y
    have z := y vs hq
    rw [e1] at z
    cases z
    exact ⟨G2, Stp.refl _ _ _ _, J2, e2.mono gg pp⟩
theorem itt_c {G : Hp} {hs : List Addr} {a : Addr} {vs : List V} {ds : List D} (h : SqT K G a vs) (hr : RepL K M G hs ds vs) : ItC K M G hs (Itt K a) ds := by
  intro G2 hs2 s2 H2 gg pp J2 i
  have hq := same_seqT J2.sub (same_seqT gg h)
  refine ⟨fun e => ⟨vs, hq, ?_⟩, fun d e => ?_⟩
  · rw [← hr.length]; exact List.getElem?_eq_none_iff.mp e
  · obtain ⟨v, e1, e2⟩ := hr.get e
    refine ⟨⟨vs, v, hq, e1⟩, fun x H' y => ?_⟩
    obtain ⟨rfl, y⟩ := y
    have z := y vs hq
    rw [e1] at z
    cases z
    exact ⟨G2, Stp.refl _ _ _ _, J2, e2.mono gg pp⟩
def iterD (o : D → Option (List D)) (f : Env → DS → R D) : Env → DS → R (List D) := fun η s => (f η s).bind fun d s1 => R.ofO (o d) s1
variable {tg e : Expr} {f : Env → DS → R D}
theorem di_list (h : DE M X W e f) : DI M X W tg e (iterD scrO f) := by
  obtain ⟨t, p, k⟩ := h.ex
  refine ⟨_, pi_list p, fun A σ H G hs own η s Q I r => ?_⟩
  refine k A σ H G hs own η s _ I (r.bind.mono fun d G1 hs1 s1 H1 S1 J1 q v hv => ?_)
  obtain ⟨ds, eo, q⟩ := q.ofO
  unfold scrO at eo
  split at eo
  · cases eo
    obtain ⟨a, rfl, hq⟩ := rep_scr.mp hv
    exact ⟨a, rfl, ⟨_, J1.sub.seq hq⟩, q G1 hs1 H1 (Stp.refl _ _ _ _) J1 _ (itl_c (fun G2 H2 gg sm => sm.seq (gg.seq hq)) (RepL.ints.mpr rfl))⟩
  · cases eo
    obtain ⟨a, vs, rfl, h1, h2⟩ := rep_lst.mp hv
    exact ⟨a, rfl, ⟨vs, SqL.of (J1.sub _ _ h1)⟩, q G1 hs1 H1 (Stp.refl _ _ _ _) J1 _ (itl_c (fun G2 H2 gg sm => SqL.of (sm _ _ (gg _ _ h1))) h2)⟩
  · cases eo
theorem di_tup (h : DE M X W e f) : DI M X W tg e (iterD tupO f) := by
  obtain ⟨t, p, k⟩ := h.ex
  refine ⟨_, pi_tup p, fun A σ H G hs own η s Q I r => ?_⟩
  refine k A σ H G hs own η s _ I (r.bind.mono fun d G1 hs1 s1 H1 S1 J1 q v hv => ?_)
  obtain ⟨ds, eo, q⟩ := q.ofO
  unfold tupO at eo
  split at eo
  · cases eo
    obtain ⟨a, vs, rfl, h1, h2⟩ := rep_tup hv
    exact ⟨a, rfl, ⟨vs, same_seqT J1.sub h1⟩, q G1 hs1 H1 (Stp.refl _ _ _ _) J1 _ (itt_c h1 h2)⟩
  · cases eo
/-- lo, lo + 1, .. -/
def rngL (lo : Int) : Nat → List D
  | 0 => []
  | n + 1 => .int lo :: rngL (lo + 1) n
theorem rngL_get : ∀ (n : Nat) (lo : Int) (i : Nat), (rngL lo n)[i]? = if i < n then some (.int (lo + i)) else none
  | 0, lo, i => by simp [rngL]
  | n + 1, lo, 0 => by simp [rngL]
  | n + 1, lo, i + 1 => by
    rw [rngL, List.getElem?_cons_succ, rngL_get n (lo + 1) i]
    have e : lo + 1 + (i : Int) = lo + ((i + 1 : Nat) : Int) := by omega
    rw [e]
    simp only [Nat.add_lt_add_iff_right]
theorem itr_c {G : Hp} {hs : List Addr} {lo : Int} {n : Nat} : ItC K M G hs (Itr lo n) (rngL lo n) := by
  intro G2 hs2 s2 H2 gg pp J2 i
  rw [rngL_get]
  refine ⟨fun e => ?_, fun d e => ?_⟩
  · split at e
    · cases e
    · show n ≤ i; omega
  · split at e
    · cases e
      rename_i hi
      refine ⟨hi, fun x H' y => ?_⟩
      obtain ⟨rfl, rfl⟩ := y
      exact ⟨G2, Stp.refl _ _ _ _, J2, rep_int.mpr rfl⟩
    · cases e
noncomputable def small62 (i : Int) : Bool := cl (-4611686018427387904 ≤ i) && cl (i < 4611686018427387904)
theorem small62_of {i : Int} (h : small62 i = true) : -(2 ^ 62) ≤ i ∧ i < 2 ^ 62 := by
  unfold small62 at h
  rw [Bool.and_eq_true, cl_iff, cl_iff] at h
  have p : (2 : Int) ^ 62 = 4611686018427387904 := by decide
  rw [p]
  exact h
noncomputable def rng1 : List D → Option (List D)
  | [.int j] => if small62 j = true then some (rngL 0 j.toNat) else none
  | _ => none
noncomputable def rng2 : List D → Option (List D)
  | [.int i, .int j] => if (small62 i && small62 j) = true then some (rngL i (j - i).toNat) else none
  | _ => none
def rngD (o : List D → Option (List D)) (g : Env → DS → R (List D)) : Env → DS → R (List D) := fun η s => (g η s).bind fun ds s1 => R.ofO (o ds) s1
theorem di_range1 {a : Expr} {g : Env → DS → R (List D)} {p pos : Pos} (hm : X.mg "range" = none) (ha : DA M X W [a] g) (hg : Gl X "range" := by rfl) (hs : starEach [a] X.env = [(false, eval a X.env)] := by rfl) : DI M X W tg (.Call (.Name "range" p) [a] [] pos) (rngD rng1 g) := by
  obtain ⟨t, pa, k⟩ := ha.ex
  refine ⟨_, pi_range1 hg hm pa hs, fun A σ H G hs own η s Q I r => ?_⟩
  refine k A σ H G hs own η s _ I (r.bind.mono fun ds G1 hs1 s1 H1 S1 J1 q vs hv => ?_)
  obtain ⟨xs, eo, q2⟩ := q.ofO
  clear q
  unfold rng1 at eo
  split at eo
  · split at eo
    · cases eo
      rename_i j hj
      rw [repL_cons] at hv
      obtain ⟨v, vr, rfl, h1, h2⟩ := hv
      rw [repL_nil] at h2
      rw [rep_int] at h1
      subst h1 h2
      exact ⟨j, rfl, (small62_of hj).1, (small62_of hj).2, q2 G1 hs1 H1 (Stp.refl _ _ _ _) J1 _ itr_c⟩
    · cases eo
  · cases eo
def forF (put : D → Env → Option Env) (body : Env → DS → F) : List D → Env → DS → F
  | [], η, s => .nx η s
  | d :: ds, η, s => match put d η with
    | none => .bad
    | some η1 => match body η1 s with
      | .nx η2 s2 => forF put body ds η2 s2
      | .ct η2 s2 => forF put body ds η2 s2
      | .bk η2 s2 => .nx η2 s2
      | r => r
def forB (fi : Env → DS → R (List D)) (put : D → Env → Option Env) (body : Env → DS → F) : Env → DS → F := fun η s => (fi η s).toF η fun ds s1 => forF put body ds η s1
end
end DL
set_option Elab.async false
set_option linter.all false
set_option maxRecDepth 100000
set_option maxHeartbeats 2000000
namespace DL
open PySem PySem.Spec PyProof.Rows L2
def wipeE (η : Env) : List Nat → Env
  | [] => η
  | v :: vs => (wipeE η vs).set v .no
theorem wipeE_len (η : Env) : ∀ vs, (wipeE η vs).length = η.length
  | [] => rfl
  | v :: vs => by unfold wipeE; rw [List.length_set, wipeE_len η vs]
theorem wipeE_get {η : Env} {j : Nat} {x : Sl} : ∀ {vs : List Nat}, (wipeE η vs)[j]? = some x → x ≠ .no → η[j]? = some x ∧ j ∉ vs
  | [], h, _ => ⟨h, List.not_mem_nil⟩
  | v :: vs, h, n => by
    unfold wipeE at h
    rcases set_get h with ⟨rfl, q⟩ | ⟨hj, q⟩
    · exact absurd q n
    · obtain ⟨h1, h2⟩ := wipeE_get q n
      exact ⟨h1, fun z => by
        rcases List.mem_cons.mp z with z | z
        · exact hj z
        · exact h2 z⟩
theorem wipe_eq {σ σ' : L2.St} : ∀ {vs is : List Nat}, Chg is (wipe σ vs) σ' → (∀ j ∈ is, j ∈ vs) → wipe σ' vs = wipe σ vs := by
  intro vs is h hs
  have key : ∀ (τ : L2.St) (ws : List Nat) (j : Nat), (wipe τ ws)[j]? = if j ∈ ws then (if j < τ.length then some none else none) else τ[j]? := by
    intro τ ws
    induction ws with
    | nil => intro j; simp [wipe]
    | cons w ws ih =>
      intro j
      unfold wipe
      by_cases hj : j = w
      · subst hj
        rw [if_pos List.mem_cons_self]
        by_cases hl : j < τ.length
        · rw [List.getElem?_set_self (by rw [wipe_length]; exact hl), if_pos hl]
        · rw [List.getElem?_eq_none (by rw [List.length_set, wipe_length]; omega), if_neg hl]
      · rw [List.getElem?_set_ne (Ne.symm hj), ih j]
        by_cases hm : j ∈ ws
        · rw [if_pos hm, if_pos (List.mem_cons_of_mem _ hm)]
        · rw [if_neg hm, if_neg (fun z => by
            rcases List.mem_cons.mp z with z | z
            · exact hj z
            · exact hm z)]
  have hl : σ'.length = σ.length := by rw [h.len, wipe_length]
  apply List.ext_getElem?
  intro j
  rw [key, key, hl]
  by_cases hm : j ∈ vs
  · rw [if_pos hm, if_pos hm]
  · rw [if_neg hm, if_neg hm, h.out j (fun z => hm (hs j z)), key, if_neg hm]
section
variable {M : Mp} {X : Cx} {W : WX} {K : PySem.W.Frag}
theorem Sm.wipe {A : Anc} {σ : L2.St} {H G : Hp} {hs : List Addr} {own : Nat → Addr} {η : Env} {s : DS} (I : Sm K M A σ H G hs own η s) (vs : List Nat) : Sm K M A (wipe σ vs) H G hs own (wipeE η vs) s :=
  ⟨I.sim, I.stp, fun i d e => by
    obtain ⟨h1, h2⟩ := wipeE_get e (fun z => by cases z)
    obtain ⟨v, k1, k2⟩ := I.pl i d h1
    exact ⟨v, by rw [wipe_out h2]; exact k1, k2⟩, fun i d e => by
    obtain ⟨h1, h2⟩ := wipeE_get e (fun z => by cases z)
    obtain ⟨k1, k2⟩ := I.ow i d h1
    exact ⟨by rw [wipe_out h2]; exact k1, k2⟩, fun i j d d' e1 e2 => I.inj i j d d' (wipeE_get e1 (fun z => by cases z)).1 (wipeE_get e2 (fun z => by cases z)).1, by rw [wipeE_len, wipe_length]; exact I.el, fun x d ex e => I.sf x d ex (wipeE_get e (fun z => by cases z)).1⟩
/-- an object that no one tracks is written -/
theorem Sim.updU {H G : Hp} {hs : List Addr} {s : DS} {p : Addr} {o : HO} (J : Sim K M G hs s H) (g : G p = none) (n : p ∉ hs) (t : ¬ inTab M p) (x : ∀ f, H p ≠ some (tb2 f)) : Sim K M G hs s (upd H p o) :=
  ⟨same_upd2 J.sub g, J.len, J.nd, J.hG, fun k a d e1 e2 => RepAt.upd (J.han k a d e1 e2) fun z => n (by rw [← z]; exact List.mem_of_getElem? e1), tabs_upd J.tab t x, J.tG⟩
def R.nx {α : Type} (r : R α) : R α := match r with
  | .ok a s => .ok a s
  | _ => .bad
def lcF (put : D → Env → Option Env) (ft : Env → DS → R Bool) (fe : Env → DS → R D) (η0 : Env) : List D → DS → R (List D)
  | [], s => .ok [] s
  | d :: ds, s => match put d η0 with
    | none => .bad
    | some η1 => (ft η1 s).nx.bind fun b s1 => if b = true then (fe η1 s1).nx.bind fun y s2 => (lcF put ft fe η0 ds s2).bind fun ys s3 => .ok (y :: ys) s3 else lcF put ft fe η0 ds s1
def lcD (fi : Env → DS → R (List D)) (put : D → Env → Option Env) (ft : Env → DS → R Bool) (fe : Env → DS → R D) (vs : List Nat) : Env → DS → R D := fun η s => (fi η s).bind fun ds s1 =>
  if ds.length ≤ 16777216 then (lcF put ft fe (wipeE η vs) ds s1).bind fun ys s2 => .ok (.lst ys) s2 else .bad
/-- no errors within -/
abbrev W0 : WX := fun _ _ _ _ => False
structure DTs (M : Mp) (X : Cx) (W : WX) (ifs : List Expr) (f : Env → DS → R Bool) : Prop where
  ex : ∃ t, PTs X ifs t ∧ TEx M X W t f
def yesT : Env → DS → R Bool := fun _ s => .ok true s
theorem dts_nil : DTs M X W [] yesT := ⟨_, pts_nil, fun A σ H G hs own η s Q I r => r G hs H (Stp.refl _ _ _ _) I.sim⟩
theorem dts_one {c : Expr} {f : Env → DS → R Bool} (h : DT M X W c f) : DTs M X W [c] f := by
  obtain ⟨t, p, h⟩ := h.ex
  exact ⟨t, pts_one p, h⟩
abbrev BC (X : Cx) (scope : Scope) (s : Shared) (H : Hp) (C : Addr) (cl : List (Str × Addr)) (fp : List Addr) : Cx := X.blk s H scope (compEnvC scope cl C X.env) fp
/-- .. the same meaning in every run of the block -/
theorem blk_e {scope : Scope} {elt : Expr} {fe : Env → DS → R D} (h : ∀ s H C cl fp, DE M (BC X scope s H C cl fp) W0 elt fe) : ∃ te : TE, (∀ s H C cl fp, PE (BC X scope s H C cl fp) elt te) ∧ EEx M X W0 te fe := by
  refine ⟨fun σ H Q => ∀ s H0 C cl fp, Classical.choose (h s H0 C cl fp).ex σ H Q, fun s H0 C cl fp => ⟨fun pins s1 σ H Q I hw => (Classical.choose_spec (h s H0 C cl fp).ex).1.run pins s1 σ H Q I (hw s H0 C cl fp)⟩, ?_⟩
  intro A σ H G hs own η s Q I r s0 H0 C cl fp
  exact (Classical.choose_spec (h s0 H0 C cl fp).ex).2 A σ H G hs own η s Q I r
theorem blk_t {scope : Scope} {ifs : List Expr} {ft : Env → DS → R Bool} (h : ∀ s H C cl fp, DTs M (BC X scope s H C cl fp) W0 ifs ft) : ∃ tt : TT, (∀ s H C cl fp, PTs (BC X scope s H C cl fp) ifs tt) ∧ TEx M X W0 tt ft := by
  refine ⟨fun σ H Q => ∀ s H0 C cl fp, Classical.choose (h s H0 C cl fp).ex σ H Q, fun s H0 C cl fp => ⟨fun pins s1 σ H Q I hw => (Classical.choose_spec (h s H0 C cl fp).ex).1.run pins s1 σ H Q I (hw s H0 C cl fp)⟩, ?_⟩
  intro A σ H G hs own η s Q I r s0 H0 C cl fp
  exact (Classical.choose_spec (h s0 H0 C cl fp).ex).2 A σ H G hs own η s Q I r
abbrev GEx (M : Mp) (X : Cx) (g : TG) (f : D → Env → Option Env) (is : List Nat) : Prop := ∀ (A : Anc) (σ : L2.St) (H G : Hp) (hs : List Addr) (own : Nat → Addr) (η η' : Env) (s : DS) (d : D) (v : V) (Q : L2.St → Hp → Prop), Sm X.K M A σ H G hs own η s → Rep X.K M G hs d v → f d η = some η' →
    (∀ σ', Sm X.K M A σ' H G hs own η' s → Chg is σ σ' → Q σ' H) → g v σ H Q
theorem blk_g {scope : Scope} {tg : Expr} {put : D → Env → Option Env} {is : List Nat} (h : ∀ s H C cl fp, DG M (BC X scope s H C cl fp) tg put is) : ∃ g : TG, (∀ s H C cl fp, PG (BC X scope s H C cl fp) tg g) ∧ GEx M X g put is := by
  refine ⟨fun v σ H Q => ∀ s H0 C cl fp, Classical.choose (h s H0 C cl fp).ex v σ H Q, fun s H0 C cl fp => ⟨fun pins s1 σ H v u Q I r hw => (Classical.choose_spec (h s H0 C cl fp).ex).1.run pins s1 σ H v u Q I r (hw s H0 C cl fp)⟩, ?_⟩
  intro A σ H G hs own η η' s d v Q I hr e k s0 H0 C cl fp
  exact (Classical.choose_spec (h s0 H0 C cl fp).ex).2 A σ H G hs own η η' s d v Q I hr e k
theorem lc_sem {tg iter : Expr} {wi : TI} {g : TG} {tt : TT} {te : TE} {vs is : List Nat} {fi : Env → DS → R (List D)} {put : D → Env → Option Env} {ft : Env → DS → R Bool} {fe : Env → DS → R D}
    (ki : ∀ (A : Anc) (σ : L2.St) (H G : Hp) (hs : List Addr) (own : Nat → Addr) (η : Env) (s : DS) (Q : It → Hp → Prop), Sm X.K M A σ H G hs own η s → RPost X.K M σ W G hs H (fi η s) (fun ds G' hs' _ H' => ∀ J, ItS X.K M G' hs' H' J ds → Q J H') → wi σ H Q)
    (kg : GEx M X g put is) (kt : TEx M X W0 tt ft) (ke : EEx M X W0 te fe) (hv : (is.all fun j => vs.contains j) = true) : FEx M X W (tLc wi g tt te vs) (lcD fi put ft fe vs) := by
  intro A σ H0 G0 hs0 own η s0 Q I0 hp
  refine ki A σ H0 G0 hs0 own η s0 _ I0 (hp.bind.mono fun ds G1 hs1 s1 H1 S1 J1 h1 J hJ D0 hD => ?_)
  split at h1
  case isFalse => exact h1.elim
  rename_i hlen
  have I1 := I0.step S1 J1
  have his : ∀ j ∈ is, j ∈ vs := fun j hj => List.contains_iff_mem.mp (List.all_eq_true.mp hv j hj)
  obtain ⟨fD1, fD2, fD3⟩ := J1.free hD
  refine ⟨fun i m H => ∃ G hs s acc done, Stp M G1 hs1 H1 G hs H ∧ Sim X.K M G hs s H ∧ H D0 = some (.lst acc) ∧ G D0 = none ∧ D0 ∉ hs ∧ acc.length ≤ i ∧ i ≤ ds.length ∧ m = ds.length - i ∧ RepL X.K M G hs done acc ∧
    RPost X.K M σ W G1 hs1 H1 (lcF put ft fe (wipeE η vs) (ds.drop i) s) (fun ys G' hs' s' H' => ∀ p, Nt H0 p → Fr1 X.K M G' hs' H' (.lst (done ++ ys)) p → Q (.ref p) H'),
    ⟨ds.length, G1, hs1, s1, [], [], Stp.extH (fun a u e => by rw [upd_ne (ne_of_none e hD)]; exact e), J1.extH (fun a u e => by rw [upd_ne (ne_of_none e hD)]; exact e), upd_same, fD1, fD2, Nat.le_refl _, Nat.zero_le _, rfl, repL_nil.mpr rfl, ?_⟩, ?_⟩
  · rw [List.drop_zero]
    refine RPost.mono h1.bind fun ys G' hs' s' H' S' J' k p => ?_
    exact k G' hs' H' (Stp.refl _ _ _ _) J' p
  rintro i m H ⟨G, hs, s, acc, done, S, J2, eD, gD, nD, ha, hi, rfl, hdone, hr⟩
  obtain ⟨stop, go⟩ := hJ G hs s H S J2 i
  cases q : ds[i]? with
  | none =>
    have hn : ds.drop i = [] := List.drop_eq_nil_of_le (List.getElem?_eq_none_iff.mp q)
    rw [hn] at hr
    refine .inl ⟨stop q, ?_⟩
    refine hr G hs H S J2 D0 (S1.dm _ (nt_none hD)) ⟨⟨acc, eD, by rw [List.append_nil]; exact hdone⟩, gD, nD, fD3⟩
  | some d =>
    have hlt : i < ds.length := (List.getElem?_eq_some_iff.mp q).1
    obtain ⟨go1, go2⟩ := go d q
    have hd : ds.drop i = d :: ds.drop (i + 1) := by
      rw [List.drop_eq_getElem_cons hlt]
      congr 1
      rw [List.getElem?_eq_getElem hlt] at q
      exact Option.some.inj q
    rw [hd, lcF] at hr
    refine .inr ⟨go1, _, fun H' h => ⟨ds.length - (i + 1), by omega, h⟩, fun x H2 y => ?_⟩
    obtain ⟨G2, S2, J3, hx⟩ := go2 x H2 y
    have a2 := S2.away eD nD gD (fun ps z => by cases z)
    have eD2 := S2.kp _ _ eD nD (fun ps z => by cases z)
    have SS2 := S.trans S2
    split at hr
    · exact hr.elim
    rename_i η1 e1
    have I2 := (I1.step SS2 J3).wipe vs
    refine kg A _ H2 G2 hs own _ η1 s d x _ I2 hx e1 fun σ2 I3 chg => ⟨wipe_eq chg his, ?_⟩
    refine kt A σ2 H2 G2 hs own η1 s _ I3 ?_
    cases qt : ft η1 s with
    | ex c p s' => rw [qt] at hr; exact hr.elim
    | bad => rw [qt] at hr; exact hr.elim
    | ok b s3 =>
      rw [qt] at hr
      intro G3 hs3 H3 S3 J4
      have a3 := S3.away eD2 nD a2.1 (fun ps z => by cases z)
      have eD3 := S3.kp _ _ eD2 nD (fun ps z => by cases z)
      have SS3 := SS2.trans S3
      have hr2 : RPost X.K M σ W G1 hs1 H1 (if b = true then (fe η1 s3).nx.bind fun y s2 => (lcF put ft fe (wipeE η vs) (ds.drop (i + 1)) s2).bind fun ys s3 => .ok (y :: ys) s3 else lcF put ft fe (wipeE η vs) (ds.drop (i + 1)) s3) _ := hr
      cases b with
      | false =>
        rw [if_neg Bool.false_ne_true] at hr2 ⊢
        exact ⟨G3, hs3, s3, acc, done, SS3, J4, eD3, a3.1, a3.2, by omega, hlt, rfl, hdone.mono (S2.gg.trans S3.gg) (S2.hp.trans S3.hp), hr2⟩
      | true =>
        rw [if_pos rfl] at hr2 ⊢
        have I4 := I3.step S3 J4
        refine ke A σ2 H3 G3 hs3 own η1 s3 _ I4 ?_
        cases qe : fe η1 s3 with
        | ex c p s' => rw [qe] at hr2; exact hr2.elim
        | bad => rw [qe] at hr2; exact hr2.elim
        | ok z s4 =>
          rw [qe] at hr2
          intro G4 hs4 H4 S4 J5 v hv
          have a4 := S4.away eD3 a3.2 a3.1 (fun ps z => by cases z)
          have eD4 := S4.kp _ _ eD3 a3.2 (fun ps z => by cases z)
          have SS4 := SS3.trans S4
          refine ⟨acc, eD4, by rw [line_]; omega, G4, hs4, s4, acc ++ [v], done ++ [z], ⟨SS4.gg, SS4.fr, SS4.hp, SS4.hf, fun a u e n t => ?_, fun a e => ?_⟩, J5.updU a4.1 a4.2 fD3 (by rw [eD4]; exact fun f z => by cases f <;> cases z), upd_same, a4.1, a4.2, by rw [List.length_append]; simp; omega, hlt, rfl, ?_, ?_⟩
          · rw [upd_ne (ne_of_none e hD)]
            exact SS4.kp a u e n t
          · by_cases z : a = D0
            · rw [z]; exact nt_none hD
            · exact SS4.dm a fun u q => e u (by rw [upd_ne z]; exact q)
          · exact (hdone.mono ((S2.gg.trans S3.gg).trans S4.gg) ((S2.hp.trans S3.hp).trans S4.hp)).append (repL_cons.mpr ⟨v, [], rfl, hv, repL_nil.mpr rfl⟩)
          · have hr3 : RPost X.K M σ W G1 hs1 H1 ((lcF put ft fe (wipeE η vs) (ds.drop (i + 1)) s4).bind fun ys s3 => .ok (z :: ys) s3) _ := hr2
            refine RPost.mono hr3.bind fun ys G' hs' s' H' S' J' k p hp0 fr => ?_
            refine k G' hs' H' (Stp.refl _ _ _ _) J' p hp0 ?_
            rw [List.append_assoc] at fr
            exact fr
theorem df_lc {elt tg iter : Expr} {ifs : List Expr} {scope : Scope} {own : List (Str × Nat)} {pos : Pos} {is : List Nat} {fi : Env → DS → R (List D)} {put : D → Env → Option Env} {ft : Env → DS → R Bool} {fe : Env → DS → R D} (hc : X.calm = true) (hN : X.N.Nodup) (hi : DIS M X W tg iter fi) (ok : blkC X.N X.env.scope scope own = true)
    (hg : ∀ s H C cl fp, DG M (BC X scope s H C cl fp) tg put is) (ht : ∀ s H C cl fp, DTs M (BC X scope s H C cl fp) W0 ifs ft) (he : ∀ s H C cl fp, DE M (BC X scope s H C cl fp) W0 elt fe) (hv : (is.all fun j => (own.map (·.2)).contains j) = true := by rfl) (hs : ∀ x, foldedSetIterable iter X.env x = pure x := by intro _; rfl) :
    DF M X W (.ListComp elt [⟨tg, iter, ifs, 0⟩] scope pos) (lcD fi put ft fe (own.map (·.2))) := by
  obtain ⟨wi, pi, ki⟩ := hi.ex
  obtain ⟨g, pg, kg⟩ := blk_g hg
  obtain ⟨tt, pt, kt⟩ := blk_t ht
  obtain ⟨te, pe, ke⟩ := blk_e he
  exact ⟨_, pe_lc hc hN pi (blkOk_by ok) pg pt pe hs, lc_sem (tg := tg) (iter := iter) ki kg kt ke hv⟩
theorem FEx.de {t : TE} {f : Env → DS → R D} (h : FEx M X W t f) : EEx M X W t (calmD f) := by
  intro A σ H G hs own η s Q I hp
  refine h A σ H G hs own η s Q I ?_
  unfold calmD at hp
  cases q : f η s with
  | ok d s1 =>
    rw [q] at hp
    have hp2 : RPost X.K M σ W G hs H (if notObj d = true then R.ok d s1 else .bad) (fun d G' hs' _ H' => ∀ v, Rep X.K M G' hs' d v → Q v H') := hp
    intro G1 hs1 H1 S1 J1 p hp0 fr
    by_cases hn : notObj d = true
    · rw [if_pos hn] at hp2
      obtain ⟨o, ho, hr⟩ := at_rep fr.g fr.at_ (notObj_of hn) (notDic_of hn)
      exact hp2 _ hs1 H1 (S1.still hp0 fr.g) (J1.still ho fr.h fr.t fr.g (at_no fr.at_ ho)) _ hr
    · rw [if_neg hn] at hp2
      exact hp2.elim
  | ex c p s1 => rw [q] at hp; exact hp
  | bad => rw [q] at hp; exact hp
theorem set_sem {t : TE} {f : Env → DS → R D} (i : Nat) (h : EEx M X W t f) : SEx M X W (tAsg t (gName i)) (setB i f) := fun A σ H G hs own η s E I hp =>
  h A σ H G hs own η s _ I ((hp.lift I).mono fun d G1 hs1 s1 H1 S1 J1 h1 v hv => FPost.put (I.step S1 J1) hv h1)
section
variable {i : Nat} {y : Str} {py : Pos} {elt tg iter : Expr} {ifs : List Expr} {scope : Scope} {own : List (Str × Nat)} {pos spos : Pos} {is : List Nat} {fi : Env → DS → R (List D)} {put : D → Env → Option Env} {ft : Env → DS → R Bool} {fe : Env → DS → R D}
theorem ds_setLc (i : Nat) (hc : X.calm = true) (hN : X.N.Nodup) (hi : DIS M X W tg iter fi) (ok : blkC X.N X.env.scope scope own = true)
    (hg : ∀ s H C cl fp, DG M (BC X scope s H C cl fp) tg put is) (ht : ∀ s H C cl fp, DTs M (BC X scope s H C cl fp) W0 ifs ft) (he : ∀ s H C cl fp, DE M (BC X scope s H C cl fp) W0 elt fe) (hy : X.N[i]? = some y := by rfl) (hyl : X.env.scope.names.lookup y = some .local := by rfl)
    (hsw : swapsWith (.ListComp elt [⟨tg, iter, ifs, 0⟩] scope pos) (some (.Name y py)) spos.line X.env = pure true := by exact sw_true rfl rfl rfl rfl) (hv : (is.all fun j => (own.map (·.2)).contains j) = true := by rfl) (hs : ∀ x, foldedSetIterable iter X.env x = pure x := by intro _; rfl) :
    DSt M X W (.Assign [.Name y py] (.ListComp elt [⟨tg, iter, ifs, 0⟩] scope pos) spos) (setB i (calmD (lcD fi put ft fe (own.map (·.2))))) := by
  obtain ⟨wi, pi, ki⟩ := hi.ex
  obtain ⟨g, pg, kg⟩ := blk_g hg
  obtain ⟨tt, pt, kt⟩ := blk_t ht
  obtain ⟨te, pe, ke⟩ := blk_e he
  exact ⟨_, ps_setLc hc hN hy hyl hsw pi (blkOk_by ok) pg pt pe hs, set_sem i (lc_sem (tg := tg) (iter := iter) ki kg kt ke hv).de⟩
end
end
end DL
set_option Elab.async false
set_option linter.all false
set_option maxRecDepth 100000
set_option maxHeartbeats 2000000
namespace DL
open PySem PySem.Spec PyProof.Rows L2
abbrev WofE (E : XK) : WX := fun cls dx _ H => E cls dx H
/-- f(ds) at the state s gives what g says -/
def SpD (K : PySem.W.Frag) (M : Mp) (n : Nat) (g : List D → DS → R D) : Sp := fun vs H Q E => ∃ (G : Hp) (hs : List Addr) (s : DS) (ds : List D), Sim K M G hs s H ∧ RepL K M G hs ds vs ∧ ds.length = n ∧
  RPost K M [] (WofE E) G hs H (g ds s) (fun d G' hs' _ H' => ∀ v, Rep K M G' hs' d v → Q v H')
/-- C's __init__ makes of a new instance what g says -/
def SpI (K : PySem.W.Frag) (M : Mp) (c n : Nat) (g : List D → DS → R D) : Sp := fun vs H Q E => ∃ (G : Hp) (hs : List Addr) (s : DS) (ds : List D) (x dx : Addr) (H0 : Hp) (vs' : List V), vs = .ref x :: vs' ∧ H0 x = none ∧ H0 dx = none ∧ dx ≠ x ∧ H = upd (upd H0 dx (.own x)) x (.ins (M.cls c) dx []) ∧
  Sim K M G hs s H0 ∧ RepL K M G hs ds vs' ∧ ds.length + 1 = n ∧ RPost K M [] (WofE E) G hs H0 (g ds s) (fun d G' hs' _ H' => Fr1 K M G' hs' H' d x → Q .non H')
def padE (n : Nat) (ds : List Sl) : Env := ds ++ List.replicate (n - ds.length) .no
def fnD (n : Nat) (body : Env → DS → F) : List D → DS → R D := fun ds s => match body (padE n (ds.map .v)) s with
  | .nx _ s1 => .ok .non s1
  | .rt d s1 => .ok d s1
  | .ex c p _ s1 => .ex c p s1
  | _ => .bad
def inD (c n : Nat) (body : Env → DS → F) : List D → DS → R D := fun ds s => match body (padE n (.o (.obj c []) :: ds.map .v)) s with
  | .nx η s1 => (match η[0]? with
    | some (Sl.o d) => .ok d s1
    | _ => .bad)
  | .ex c p _ s1 => .ex c p s1
  | _ => .bad
section
variable {M : Mp} {X : Cx} {W : WX} {K : PySem.W.Frag} {P : Program} {w : World} {mg : Str → Option Value} {base : Heap}
theorem pad_get {n : Nat} {l : List Sl} {i : Nat} {x : Sl} (h : (padE n l)[i]? = some x) (hx : x ≠ .no) : l[i]? = some x := by
  unfold padE at h
  by_cases hi : i < l.length
  · rwa [List.getElem?_append_left hi] at h
  · rw [List.getElem?_append_right (by omega), List.getElem?_replicate] at h
    split at h
    · cases h; exact absurd rfl hx
    · cases h
theorem start_get {N : List Str} {vs : List V} {i : Nat} {v : V} (h : vs[i]? = some v) : (L2.start N vs)[i]? = some (some v) := by
  unfold L2.start
  rw [List.getElem?_append_left (by rw [List.length_map]; exact (List.getElem?_eq_some_iff.mp h).1), List.getElem?_map, h]
  rfl
theorem start_len {N : List Str} {vs : List V} : (L2.start N vs).length = vs.length + (N.length - vs.length) := by
  unfold L2.start
  rw [List.length_append, List.length_map, List.length_replicate]
theorem fnD_post {A : Anc} {E : XK} {Q : VK} {n : Nat} {body : Env → DS → F} {ds : List D} {s : DS} (hp : RPost K M [] (WofE E) A.G A.hs A.H (fnD n body ds s) (fun d G' hs' _ H' => ∀ v, Rep K M G' hs' d v → Q v H')) :
    FPost K M A (WofE E) { nx := fun _ H' => Q .non H', rt := Q } (body (padE n (ds.map .v)) s) := by
  unfold fnD at hp
  split at hp
  · rename_i e
    rw [e]
    exact fun σ H G hs own I => hp G hs H I.stp I.sim .non (rep_non.mpr rfl)
  · rename_i e
    rw [e]
    exact fun H G hs v S J r => hp G hs H S J v r
  · rename_i e
    rw [e]
    exact fun σ H G hs own cls dx I x => hp G hs H cls dx I.stp I.sim x
  · exact hp.elim
end
end DL
set_option Elab.async false
set_option linter.all false
set_option maxRecDepth 100000
set_option maxHeartbeats 2000000
namespace DL
open PySem PySem.Spec PyProof.Rows L2
section
variable {M : Mp} {X : Cx} {W : WX} {x m : Str} {e o : Expr} {es : List Expr} {p pos apos : Pos} {fa : Env → DS → R (List D)} {fo : Env → DS → R D}
def callD (g : List D → DS → R D) (fa : Env → DS → R (List D)) : Env → DS → R D := fun η s => (fa η s).bind fun ds s1 => g ds s1
def gateD (n : Nat) (g : List D → DS → R D) : List D → DS → R D := fun ds s => if ds.length = n then g ds s else .bad
theorem RPost.sig {K : PySem.W.Frag} {σ σ' : L2.St} {G H : Hp} {hs : List Addr} {α : Type} {r : R α} {E : XK} {k : α → Hp → List Addr → DS → Hp → Prop} (hE : ∀ c d H', W c d σ H' → E c d H') (h : RPost K M σ W G hs H r k) : RPost K M σ' (WofE E) G hs H r k := by
  cases r with
  | ok a s => exact h
  | ex c p s => exact fun G' hs' H' cls dx S J x => hE _ _ _ (h G' hs' H' cls dx S J x)
  | bad => exact h
theorem spd_of {K : PySem.W.Frag} {σ : L2.St} {G H : Hp} {hs : List Addr} {s : DS} {ds : List D} {vs : List V} {n : Nat} {g : List D → DS → R D} {Q : VK} {E : XK} (hE : ∀ c d H', W c d σ H' → E c d H') (J : Sim K M G hs s H) (r : RepL K M G hs ds vs)
    (h : RPost K M σ W G hs H (gateD n g ds s) (fun d G' hs' _ H' => ∀ v, Rep K M G' hs' d v → Q v H')) : SpD K M n g vs H Q E := by
  unfold gateD at h
  split at h
  · rename_i hl
    exact ⟨G, hs, s, ds, J, r, hl, h.sig hE⟩
  · exact h.elim
theorem de_call {k : Nat} {f : Addr} {fd : FuncData} {ps : List Str} {n : Nat} {g : List D → DS → R D} (F : FnOk X.prog X.w X.K X.mg X.base (L2.CX X.prog X.w) k f fd ps (SpD X.K M n g)) (hb : Binds X.K fd ps []) (hk : PySem.W.keepIn X.K (.ref f) = true) (hm : X.mg x = some (.ref f)) (hr : Room k X.A) (tk : Takes X W) (ha : DA M X W (e :: es) fa)
    (hg : Gl X x := by rfl) (hdb : (x == ("__debug__" : Str)) = false := by decide) (he : starEach (e :: es) X.env = (false, eval e X.env) :: starEach es X.env := by rfl) (hpl : (backTo pos (starEach es X.env)).any (·.1) = false := by rfl) :
    DE M X W (.Call (.Name x p) (e :: es) [] pos) (callD (gateD n g) fa) := by
  obtain ⟨t, pt, h⟩ := ha.ex
  refine ⟨_, pe_callS F hr hg hm hk hb (fun σ => passAt tk σ) pt hdb he hpl, fun A σ H G hs own η s Q I hp => ?_⟩
  exact h A σ H G hs own η s _ I (hp.bind.mono fun ds G1 hs1 s1 H1 S1 J1 h1 vs hvs => spd_of (fun _ _ _ z => z) J1 hvs h1)
/-- W does not look at the names -/
abbrev Flat (W : WX) : Prop := ∀ c d σ σ' H, W c d σ H → W c d σ' H
abbrev WU (W : WX) : XK := fun c d H => ∃ σ, W c d σ H
def isC (c : Nat) : D → Bool
  | .obj c' _ => c' == c
  | _ => false
def methD (c : Nat) (g : List D → DS → R D) (fo : Env → DS → R D) (fa : Env → DS → R (List D)) : Env → DS → R D := fun η s => (fo η s).bind fun o s1 => if isC c (deref s1 o) = true then (fa η s1).bind fun ds s2 => g (o :: ds) s2 else .bad
theorem isC_at {K : PySem.W.Frag} {G H : Hp} {hs : List Addr} {s : DS} {d : D} {v : V} {c : Nat} (J : Sim K M G hs s H) (hm : (M.flds c).contains m = false) (h : Rep K M G hs d v) (e : isC c (deref s d) = true) : ∃ a dx fs, v = .ref a ∧ H a = some (.ins (M.cls c) dx fs) ∧ fs.lookup m = none := by
  have nl : ∀ {fs : List (Str × V)}, m ∉ fs.map (·.1) → fs.lookup m = none := fun {fs} => by
    induction fs with
    | nil => intro _; rfl
    | cons q fs ih =>
      intro z
      rw [List.map_cons, List.mem_cons, not_or] at z
      obtain ⟨g, w⟩ := q
      have hne : (m == g) = false := by simpa using z.1
      rw [List.lookup_cons, hne]
      exact ih z.2
  have hm' : m ∉ M.flds c := fun z => by
    rw [List.contains_iff_mem.mpr z] at hm; cases hm
  rcases (BV.read J (.inl h)) with q | ⟨a, rfl, q⟩
  · generalize deref s d = d2 at e q
    unfold isC at e
    split at e
    · rename_i c' ds
      have hc : c' = c := by simpa using e
      subst hc
      obtain ⟨a, dx, fs, rfl, h1, h2, h3⟩ := rep_obj.mp q
      exact ⟨a, dx, fs, rfl, J.sub _ _ h1, nl (by rw [h2]; exact hm')⟩
    · cases e
  · generalize deref s d = d2 at e q
    unfold isC at e
    split at e
    · rename_i c' ds
      have hc : c' = c := by simpa using e
      subst hc
      obtain ⟨dx, fs, h1, h2, h3⟩ := q
      exact ⟨a, dx, fs, rfl, h1, nl (by rw [h2]; exact fun z => hm' (List.mem_of_mem_take z))⟩
    · cases e
theorem df_make {k c : Nat} {f : Addr} {fd : FuncData} {ps : List Str} {n : Nat} {g : List D → DS → R D} (F : FnOk X.prog X.w X.K X.mg X.base (L2.CX X.prog X.w) k f fd ps (SpI X.K M c (n + 1) g)) (hb : Binds X.K fd ps []) (mk : Mk X.K (M.cls c) f) (hm : X.mg x = some (.ref (M.cls c))) (hr : Room (k + 1) X.A) (tk : Takes X W) (hW : Flat W) (ha : DA M X W (e :: es) fa)
    (hg : Gl X x := by rfl) (hdb : (x == ("__debug__" : Str)) = false := by decide) (he : starEach (e :: es) X.env = (false, eval e X.env) :: starEach es X.env := by rfl) (hpl : (backTo pos (starEach es X.env)).any (·.1) = false := by rfl) :
    DF M X W (.Call (.Name x p) (e :: es) [] pos) (callD (gateD n g) fa) := by
  obtain ⟨t, pt, h⟩ := ha.ex
  refine ⟨_, pe_make (E := WU W) mk F hr hg hm hb (dvs := []) Paired.nil (passes_call tk fun c d σ H ⟨σ', z⟩ => hW c d σ' σ H z) pt hdb he hpl, fun A σ H G hs own η s Q I hp => ?_⟩
  refine h A σ H G hs own η s _ I (hp.bind.mono fun ds G1 hs1 s1 H1 S1 J1 h1 vs hvs x dx hx hdx hne => ?_)
  unfold gateD at h1
  split at h1
  · rename_i hl
    refine ⟨G1, hs1, s1, ds, x, dx, H1, vs, by rw [List.append_nil], hx, hdx, hne, rfl, J1, hvs, by rw [hl], ?_⟩
    refine (h1.sig (E := WU W) (fun _ _ _ z => ⟨σ, z⟩)).mono fun d G2 hs2 s2 H2 S2 J2 h2 fr => ⟨rfl, h2 x (S1.dm _ (nt_none hx)) fr⟩
  · exact h1.elim
theorem df_make0 {k c : Nat} {f : Addr} {fd : FuncData} {ps : List Str} {g : List D → DS → R D} (F : FnOk X.prog X.w X.K X.mg X.base (L2.CX X.prog X.w) k f fd ps (SpI X.K M c 1 g)) (hb : Binds X.K fd ps []) (mk : Mk X.K (M.cls c) f) (hm : X.mg x = some (.ref (M.cls c))) (hr : Room (k + 1) X.A) (tk : Takes X W) (hW : Flat W)
    (hg : Gl X x := by rfl) (hdb : (x == ("__debug__" : Str)) = false := by decide) :
    DF M X W (.Call (.Name x p) [] [] pos) (callD (gateD 0 g) nilA) := by
  refine ⟨_, pe_make0 (E := WU W) mk F hr hg hm hb (dvs := []) Paired.nil (passes_call tk fun c d σ H ⟨σ', z⟩ => hW c d σ' σ H z) hdb, fun A σ H G hs own η s Q I hp => ?_⟩
  intro x dx hx hdx hne
  refine ⟨G, hs, s, [], x, dx, H, [], rfl, hx, hdx, hne, rfl, I.sim, repL_nil.mpr rfl, rfl, ?_⟩
  have hp2 : RPost X.K M σ W G hs H (g [] s) (fun d G' hs' _ H' => ∀ p, Nt H p → Fr1 X.K M G' hs' H' d p → Q (.ref p) H') := hp
  exact (hp2.sig (E := WU W) (fun _ _ _ z => ⟨σ, z⟩)).mono fun d G2 hs2 s2 H2 S2 J2 h2 fr => ⟨rfl, h2 x (nt_none hx) fr⟩
end
end DL
set_option Elab.async false
set_option linter.all false
set_option maxRecDepth 100000
set_option maxHeartbeats 2000000
namespace DL
open PySem PySem.Spec PyProof.Rows L2
def hdl (M : Mp) : List (Nat × Str) → List (Value × (Addr → Value → Option Addr → TS))
  | [] => []
  | (c, r) :: l => (.ref (M.exc c), fun _ _ _ D _ H => D.rt (.str r) H) :: hdl M l
section
variable {M : Mp} {X : Cx} {W : WX}
def toldD (l : List (Nat × Str)) (fb : Env → DS → R D) : Env → DS → R D := fun η s => match fb η s with
  | .ok d s1 => .ok d s1
  | .ex c _ s1 => (match l.lookup c with
    | some r => .ok (.str r) s1
    | none => .bad)
  | .bad => .bad
theorem extN_step {K : PySem.W.Frag} {G H H1 : Hp} {hs : List Addr} {s : DS} (J : Sim K M G hs s H) (e : LamX.ExtN H H1) (t : TabsX M.tabs H1) : Stp M G hs H G hs H1 ∧ Sim K M G hs s H1 := by
  refine ⟨⟨fun _ _ h => h, fun _ _ h => .inl h, Pre.refl _, fun _ h => .inl h, fun a o h _ n => e a o h n, fun a h o q => ?_⟩, ⟨fun a o h => e a o (J.sub a o h) (J.tG a o h), J.len, J.nd, J.hG, fun k a d e1 e2 => ?_, t, J.tG⟩⟩
  · cases o with
    | tbl ps => exact ⟨ps, rfl⟩
    | _ => exact h _ (e a _ q fun ps z => by cases z)
  · refine (J.han k a d e1 e2).mono (fun _ _ z => z) (Pre.refl _) ?_
    obtain ⟨o, h1, n⟩ := (J.han k a d e1 e2).some
    rw [h1, e a o h1 n]
theorem lam_body {k : Nat} {scope : Scope} {body : Expr} {fb : Env → DS → R D} (h : ∀ (A : Around) (outer : List PySem.Env) (s : Shared) (H : Hp) (E : XK) (f c' : Addr), Room k (A.deeper (LamX.lamEnv X scope s.heap.objs.size f c')) → DE M (LamX.lamCx X A outer s H E scope f c') (WofE E) body fb) :
    ∃ t : XK → TE, (∀ (A : Around) (outer : List PySem.Env) (s : Shared) (H : Hp) (E : XK) (f c' : Addr), Room k (A.deeper (LamX.lamEnv X scope s.heap.objs.size f c')) → PE (LamX.lamCx X A outer s H E scope f c') body (t E)) ∧ ∀ E, EEx M X (WofE E) (t E) fb := by
  refine ⟨fun E σ H Q => ∀ A outer s H0 f c' hr, Classical.choose (h A outer s H0 E f c' hr).ex σ H Q, fun A outer s H0 E f c' hr => ⟨fun pins s1 σ H Q I hw => (Classical.choose_spec (h A outer s H0 E f c' hr).ex).1.run pins s1 σ H Q I (hw A outer s H0 f c' hr)⟩, ?_⟩
  intro E A σ H G hs own η s Q I r A2 outer s0 H0 f c' hr
  exact (Classical.choose_spec (h A2 outer s0 H0 E f c' hr).ex).2 A σ H G hs own η s Q I r
end
end DL
set_option Elab.async false
set_option linter.all false
set_option maxRecDepth 100000
set_option maxHeartbeats 2000000
namespace DL
open PySem PySem.Spec PyProof.Rows L2
def FrL (K : PySem.W.Frag) (M : Mp) (G : Hp) (hs : List Addr) (H0 H : Hp) : List Sl → List V → List Addr → Prop
  | [], vs, ps => vs = [] ∧ ps = []
  | .v d :: r, vs, ps => ∃ v vr, vs = v :: vr ∧ Rep K M G hs d v ∧ FrL K M G hs H0 H r vr ps
  | .o d :: r, vs, ps => ∃ p vr pr, vs = .ref p :: vr ∧ ps = p :: pr ∧ Fr1 K M G hs H d p ∧ Nt H0 p ∧ p ∉ pr ∧ FrL K M G hs H0 H r vr pr
  | .no :: _, _, _ => False
section
variable {M : Mp} {X : Cx} {W : WX} {K : PySem.W.Frag} {G G' H H' H0 H1 : Hp} {hs hs' : List Addr}
theorem Fr1.step {d : D} {p : Addr} (h : Fr1 K M G hs H d p) (S : Stp M G hs H G' hs' H') : Fr1 K M G' hs' H' d p := by
  obtain ⟨o, e, no⟩ := h.at_.some
  obtain ⟨a1, a2⟩ := S.away e h.h h.g no (h.at_.nofix e)
  exact ⟨S.keepAt h.at_ h.h h.t, a1, a2, h.t⟩
theorem FrL.step (S : Stp M G hs H G' hs' H') : ∀ {ds : List Sl} {vs : List V} {ps : List Addr}, FrL K M G hs H0 H ds vs ps → FrL K M G' hs' H0 H' ds vs ps
  | [], _, _, h => h
  | .v d :: r, _, _, ⟨v, vr, h1, h2, h3⟩ => ⟨v, vr, h1, h2.mono S.gg S.hp, FrL.step S h3⟩
  | .o d :: r, _, _, ⟨p, vr, pr, h1, h2, h3, h4, h5, h6⟩ => ⟨p, vr, pr, h1, h2, h3.step S, h4, h5, FrL.step S h6⟩
  | .no :: _, _, _, h => h.elim
theorem FrL.base (dm : ∀ a, Nt H1 a → Nt H0 a) : ∀ {ds : List Sl} {vs : List V} {ps : List Addr}, FrL K M G hs H1 H ds vs ps → FrL K M G hs H0 H ds vs ps
  | [], _, _, h => h
  | .v d :: r, _, _, ⟨v, vr, h1, h2, h3⟩ => ⟨v, vr, h1, h2, FrL.base dm h3⟩
  | .o d :: r, _, _, ⟨p, vr, pr, h1, h2, h3, h4, h5, h6⟩ => ⟨p, vr, pr, h1, h2, h3, dm _ h4, h5, FrL.base dm h6⟩
  | .no :: _, _, _, h => h.elim
theorem FrL.length : ∀ {ds : List Sl} {vs : List V} {ps : List Addr}, FrL K M G hs H0 H ds vs ps → vs.length = ds.length
  | [], _, _, ⟨e, _⟩ => by rw [e] <;> rfl
  | .v d :: r, _, _, ⟨v, vr, h1, h2, h3⟩ => by rw [h1, List.length_cons, List.length_cons, h3.length]
  | .o d :: r, _, _, ⟨q, vr, pr, h1, h2, h3, h4, h5, h6⟩ => by rw [h1, List.length_cons, List.length_cons, h6.length]
  | .no :: _, _, _, h => h.elim
def nilF : Env → DS → R (List Sl) := fun _ s => .ok [] s
def consV (f : Env → DS → R D) (g : Env → DS → R (List Sl)) : Env → DS → R (List Sl) := fun η s => (f η s).bind fun d s1 => (g η s1).bind fun ds s2 => .ok (.v d :: ds) s2
def consO (f : Env → DS → R D) (g : Env → DS → R (List Sl)) : Env → DS → R (List Sl) := fun η s => (f η s).bind fun d s1 => (g η s1).bind fun ds s2 => .ok (.o d :: ds) s2
variable {e : Expr} {es : List Expr} {f : Env → DS → R D} {g : Env → DS → R (List Sl)}
def putS : List Nat → List Sl → Env → Option Env
  | [], [], η => some η
  | i :: is, .v d :: ds, η => if i < η.length then putS is ds (η.set i (.v d)) else none
  | i :: is, .o d :: ds, η => if 0 < i ∧ i < η.length then putS is ds (η.set i (.o d)) else none
  | _, _, _ => none
def asgFB (is : List Nat) (fa : Env → DS → R (List Sl)) : Env → DS → F := fun η s => (fa η s).toF η fun sl s1 => match putS is sl η with
  | some η' => .nx η' s1
  | none => .bad
/-- t1 = t2 = e -/
def asg2B (f1 f2 : D → Env → Option Env) (fe : Env → DS → R D) : Env → DS → F := fun η s => (fe η s).toF η fun d s1 => match (f1 d η).bind (f2 d) with
  | some η' => .nx η' s1
  | none => .bad
end
end DL
set_option Elab.async false
set_option linter.all false
set_option maxRecDepth 100000
set_option maxHeartbeats 2000000
namespace DL
open PySem PySem.Spec PyProof.Rows L2
section
variable {M : Mp} {X : Cx} {W : WX} {K : PySem.W.Frag} {P : Program} {w : World} {mg : Str → Option Value} {base : Heap}
theorem funOfD {x q : Str} {st : Stmt} {f : Addr} {fd : FuncData} (F : FunD K x q (defArgs st) (defBody st) (defScope st) [] [] f fd) : Fun K x q st f fd := by
  obtain ⟨oc, od, dV, kV, doc, pm, an, cdv, ct, osl, h1, h2, h3, h4, _⟩ := F.ex
  have e : dV = .none := by
    rcases h4 with ⟨_, h⟩ | ⟨h, _⟩
    · exact h
    · exact absurd rfl h
  subst e
  exact ⟨⟨oc, od, kV, doc, pm, an, cdv, ct, osl, h1, h2, h3⟩, F.kp⟩
theorem Fun.okC {x qual : Str} {st : Stmt} {p : He.Defn} {fd : FuncData} {N ps : List Str} {k : Nat} {sp : Sp} (F : Fun K x qual st (He.fAd K p) fd) (S : FnScope N ps (defScope st)) (len : ∀ vs H Q E, sp vs H Q E → vs.length = ps.length)
    (hbody : ∀ (cdv : Value), cdv = .ref (He.cT K p).1 → ∀ (A : Around) (outer : List PySem.Env) (s : Shared) (H : Hp) (vs : List V) (Q : VK) (E : XK), Room k (A.deeper (envOfC qual (defScope st) s.heap.objs.size (He.fAd K p) cdv)) → sp vs H Q E →
      ∃ t, PSs (cxOf (L2.CX P w) P w K mg base N qual (defScope st) (He.fAd K p) cdv A outer s H E) (defBody st) t ∧ t { nx := fun _ H' => Q .non H', rt := Q } (L2.start N vs) H) : FnOk P w K mg base (L2.CX P w) (k + 1) (He.fAd K p) fd ps sp := by
  obtain ⟨oc, od, kV, doc, pm, an, cdv, ct, osl, rfl, lk, hcd⟩ := F.ex
  obtain ⟨c, hc⟩ := He.codeIn_ref hcd
  have e : cdv = .ref (He.cT K p).1 := by
    show cdv = .ref (He.codeOf K p)
    rw [He.codeOf_eq (c := c) lk hc, hc]
  exact fn_of lk hcd S len fun A outer s H vs Q E hr hsp => hbody cdv e A outer s H vs Q E hr hsp
abbrev BodyC (M : Mp) (P : Program) (w : World) (K : PySem.W.Frag) (mg : Str → Option Value) (base : Heap) (k : Nat) (N : List Str) (qual : Str) (st : Stmt) (f : Addr) (cdv : Value) (body : Env → DS → F) : Prop := ∀ (A : Around) (outer : List PySem.Env) (s : Shared) (H : Hp) (E : XK),
  Room k (A.deeper (envOfC qual (defScope st) s.heap.objs.size f cdv)) → DSs M (cxOf (L2.CX P w) P w K mg base N qual (defScope st) f cdv A outer s H E) (WofE E) (defBody st) body
theorem fn_okT {x qual : Str} {st : Stmt} {p : He.Defn} {fd : FuncData} {N ps : List Str} {k : Nat} {body : Env → DS → F} (F : Fun K x qual st (He.fAd K p) fd) (S : FnScope N ps (defScope st)) (hb : ∀ cdv : Value, cdv = .ref (He.cT K p).1 → BodyC M P w K mg base k N qual st (He.fAd K p) cdv body) : FnOk P w K mg base (L2.CX P w) (k + 1) (He.fAd K p) fd ps (SpD K M ps.length (fnD N.length body)) := by
  refine Fun.okC F S (fun vs H Q E ⟨G, hs, s, ds, _, r, hl, _⟩ => by rw [← r.length, hl]) fun cdv hcd A outer s0 H vs Q E hr ⟨G, hs, s, ds, J, r, hl, hp⟩ => ?_
  obtain ⟨t, pt, h⟩ := (hb cdv hcd A outer s0 H E hr).ex
  refine ⟨t, pt, h ⟨G, hs, H, none⟩ (L2.start N vs) H G hs (fun _ => 0) (padE N.length (ds.map .v)) s _ ⟨J, Stp.refl _ _ _ _, fun i d e => ?_, fun i d e => ?_, fun i j d d' e => ?_, ?_, fun _ _ z => by cases z⟩ (fnD_post (A := ⟨G, hs, H, none⟩) hp)⟩
  · have e1 := pad_get e (fun z => by cases z)
    rw [List.getElem?_map, Option.map_eq_some_iff] at e1
    obtain ⟨d', e2, e3⟩ := e1
    cases e3
    obtain ⟨v, h1, h2⟩ := r.get e2
    exact ⟨v, start_get h1, h2⟩
  · have e1 := pad_get e (fun z => by cases z)
    rw [List.getElem?_map, Option.map_eq_some_iff] at e1
    obtain ⟨d', e2, e3⟩ := e1
    cases e3
  · have e1 := pad_get e (fun z => by cases z)
    rw [List.getElem?_map, Option.map_eq_some_iff] at e1
    obtain ⟨d', e2, e3⟩ := e1
    cases e3
  · rw [start_len, ← r.length]
    unfold padE
    rw [List.length_append, List.length_replicate, List.length_map]
theorem in_okT {x qual : Str} {st : Stmt} {p : He.Defn} {fd : FuncData} {N ps : List Str} {k c : Nat} {body : Env → DS → F} (F : Fun K x qual st (He.fAd K p) fd) (S : FnScope N ps (defScope st)) (hb : ∀ cdv : Value, cdv = .ref (He.cT K p).1 → BodyC M P w K mg base k N qual st (He.fAd K p) cdv body) : FnOk P w K mg base (L2.CX P w) (k + 1) (He.fAd K p) fd ps (SpI K M c ps.length (inD c N.length body)) := by
  refine Fun.okC F S (fun vs H Q E ⟨G, hs, s, ds, x, dx, H0, vs', e, _, _, _, _, _, r, hl, _⟩ => by rw [e, List.length_cons, ← r.length, hl]) fun cdv hcd A outer s0 H vs Q E hr ⟨G, hs, s, ds, x, dx, H0, vs', e, h1, h2, h3, h4, J, r, hl, hp⟩ => ?_
  subst e h4
  obtain ⟨t, pt, h⟩ := (hb cdv hcd A outer s0 _ E hr).ex
  have ext : ∀ a o, H0 a = some o → upd (upd H0 dx (.own x)) x (.ins (M.cls c) dx []) a = some o := fun a o e => by
    rw [upd_ne (ne_of_none e h1), upd_ne (ne_of_none e h2)]
    exact e
  obtain ⟨f1, f2, f3⟩ := J.free h1
  have own0 : ∀ {i : Nat} {d : D}, (padE N.length (.o (.obj c []) :: ds.map .v))[i]? = some (.o d) → i = 0 ∧ d = .obj c [] := fun {i d} e => by
    have e1 := pad_get e (fun z => by cases z)
    cases i with
    | zero => simp at e1; exact ⟨rfl, e1.symm⟩
    | succ i =>
      rw [List.getElem?_cons_succ, List.getElem?_map, Option.map_eq_some_iff] at e1
      obtain ⟨d', e2, e3⟩ := e1
      cases e3
  refine ⟨t, pt, h ⟨G, hs, H0, some x⟩ (L2.start N (.ref x :: vs')) _ G hs (fun _ => x) (padE N.length (.o (.obj c []) :: ds.map .v)) s _ ⟨J.extH ext, Stp.extH ext, fun i d e => ?_, fun i d e => ?_, fun i j d d' e e' _ => by rw [(own0 e).1, (own0 e').1], ?_, fun y d z _ => Option.some.inj z⟩ ?_⟩
  · have e1 := pad_get e (fun z => by cases z)
    cases i with
    | zero => simp at e1
    | succ i =>
      rw [List.getElem?_cons_succ, List.getElem?_map, Option.map_eq_some_iff] at e1
      obtain ⟨d', e2, e3⟩ := e1
      cases e3
      obtain ⟨v, h1, h2⟩ := r.get e2
      exact ⟨v, start_get (by rw [List.getElem?_cons_succ]; exact h1), h2⟩
  · obtain ⟨rfl, rfl⟩ := own0 e
    exact ⟨start_get rfl, ⟨dx, [], upd_same, by simp, repL_nil.mpr rfl⟩, f1, f2, f3, nt_none h1⟩
  · rw [start_len]
    unfold padE
    rw [List.length_append, List.length_replicate, List.length_cons, List.length_cons, List.length_map, r.length]
  · unfold inD at hp
    split at hp
    · rename_i η s1 e
      rw [e]
      intro σ H' G' hs' own I
      split at hp
      · rename_i d e0
        obtain ⟨k1, k2, k3, k4, k5, k6⟩ := I.ow 0 d e0
        rw [I.sf x d rfl e0] at k2 k3 k4 k5
        exact hp G' hs' H' I.stp I.sim ⟨k2, k3, k4, k5⟩
      · exact hp.elim
    · rename_i e
      rw [e]
      exact fun σ H G hs own cls dx I x => hp G hs H cls dx I.stp I.sim x
    · exact hp.elim
theorem de_lam {A : Around} {outer : List PySem.Env} {s : Shared} {H : Hp} {E : XK} {scope : Scope} {f c' : Addr} {k : Nat} {e : Expr} {fb : Env → DS → R D} (hr : Room k (A.deeper (LamX.lamEnv X scope s.heap.objs.size f c')))
    (h : (A.deeper (LamX.lamEnv X scope s.heap.objs.size f c')).units + 64 < cLine → Takes (LamX.lamCx X A outer s H E scope f c') (WofE E) → Flat (WofE E) → DE M (LamX.lamCx X A outer s H E scope f c') (WofE E) e fb) : DE M (LamX.lamCx X A outer s H E scope f c') (WofE E) e fb :=
  h hr.units (takes_of rfl rfl rfl rfl) (fun _ _ _ _ _ z => z)
theorem blkE {scope : Scope} {s : Shared} {H : Hp} {C : Addr} {cl : List (Str × Addr)} {fp : List Addr} {k : Nat} {e : Expr} {fb : Env → DS → R D} (hr : Room k X.A)
    (h : X.A.units + 64 < cLine → Takes (BC X scope s H C cl fp) W0 → Flat W0 → DE M (BC X scope s H C cl fp) W0 e fb) : DE M (BC X scope s H C cl fp) W0 e fb := h hr.units L2.takes0 (fun _ _ _ _ _ z => z)
theorem blkT {scope : Scope} {s : Shared} {H : Hp} {C : Addr} {cl : List (Str × Addr)} {fp : List Addr} {k : Nat} {e : List Expr} {fb : Env → DS → R Bool} (hr : Room k X.A)
    (h : X.A.units + 64 < cLine → Takes (BC X scope s H C cl fp) W0 → Flat W0 → DTs M (BC X scope s H C cl fp) W0 e fb) : DTs M (BC X scope s H C cl fp) W0 e fb := h hr.units L2.takes0 (fun _ _ _ _ _ z => z)
def calmN (c n : Nat) (f : Env → DS → R D) : Env → DS → R D := fun η s => (f η s).bind fun d s1 => match d with
  | .obj c' ds => if c' = c ∧ ds.length = n then .ok d s1 else .bad
  | _ => .bad
theorem DF.deN {e : Expr} {f : Env → DS → R D} {c n : Nat} (h : DF M X W e f) (hn : (M.flds c).length = n := by rfl) : DE M X W e (calmN c n f) := by
  obtain ⟨t, p, h⟩ := h.ex
  refine ⟨t, p, fun A σ H G hs own η s Q I hp => h A σ H G hs own η s Q I ?_⟩
  unfold calmN at hp
  cases q : f η s with
  | ok d s1 =>
    rw [q] at hp
    intro G1 hs1 H1 S1 J1 p hp0 fr
    have hp2 : RPost X.K M σ W G hs H (match d with | .obj c' ds => if c' = c ∧ ds.length = n then R.ok d s1 else .bad | _ => .bad) (fun d G' hs' _ H' => ∀ v, Rep X.K M G' hs' d v → Q v H') := hp
    split at hp2
    · rename_i c' ds
      split at hp2
      · rename_i hc
        obtain ⟨o, ho, hr⟩ := at_rep fr.g fr.at_ (fun c2 ds2 e2 => by cases e2; rw [hc.2, hc.1, hn]) trivial
        exact hp2 _ hs1 H1 (S1.still hp0 fr.g) (J1.still ho fr.h fr.t fr.g (at_no fr.at_ ho)) _ hr
      · exact hp2.elim
    · exact hp2.elim
  | ex c p s1 => rw [q] at hp; exact hp
  | bad => rw [q] at hp; exact hp
end
end DL
set_option Elab.async false
set_option linter.all false
set_option maxRecDepth 100000
set_option maxHeartbeats 2000000
namespace DL
open PySem PySem.Spec PyProof.Rows L2
theorem law_sp {K : PySem.W.Frag} {M : Mp} {cs : List (Addr × Addr)} (g : List D → DS → R D) {n : Nat} (hg : ∀ ns : List Int, ns.length ≤ n → ∃ s, g [.scr ns] [] = .ok (.bl true) s) (ht : ∀ p ∈ M.tabs.l, ∃ q ∈ cs, q.2 = p.1) (ho : M.tabs.own = none := by rfl)
    (H : Hp) (a : Addr) (ns : List Int) (hl : ns.length ≤ n) (hT : ∀ p ∈ cs, H p.2 = some (.tbl #[])) (hS : SqL K H a (ns.map V.int)) : SpD K M 1 g [.ref a] H (fun v _ => v = .bl true) fun _ _ _ => False := by
  obtain ⟨s, hs⟩ := hg ns hl
  let G : Hp := fun b => match H b with
    | some (.tbl _) => none
    | o => o
  have gs : Same G H := fun b o e => by
    show H b = some o
    have e1 : (match H b with | some (.tbl _) => none | o => o) = some o := e
    split at e1
    · cases e1
    · exact e1
  have keep : ∀ b o, H b = some o → (∀ ps, o ≠ .tbl ps) → G b = some o := fun b o e no => by
    show (match H b with | some (.tbl _) => none | o => o) = some o
    rw [e]
    cases o with
    | tbl ps => exact absurd rfl (no ps)
    | _ => rfl
  have tG : ∀ b o, G b = some o → ∀ ps, o ≠ .tbl ps := fun b o e ps z => by
    subst z
    have e1 : (match H b with | some (.tbl _) => none | o => o) = some (HO.tbl ps) := e
    split at e1
    · cases e1
    · rename_i h1
      exact h1 _ e1
  have hS' : SqL K G a (ns.map V.int) := by
    rcases hS with (h | ⟨o, h⟩) | h
    · exact .inl (.inl (keep _ _ h fun ps z => by cases z))
    · exact .inl (.inr ⟨o, keep _ _ h fun ps z => by cases z⟩)
    · exact .inr h
  refine ⟨G, [], [], [.scr ns], ⟨gs, rfl, List.nodup_nil, fun _ h => (by cases h), fun k a d e => (by simp at e), ⟨fun p hp => ?_, fun c P q z => (by rw [ho] at z; cases z)⟩, tG⟩, repL_cons.mpr ⟨_, [], rfl, rep_scr.mpr ⟨a, rfl, hS'⟩, repL_nil.mpr rfl⟩, rfl, ?_⟩
  · obtain ⟨q, hq, e⟩ := ht p hp
    rw [← e]
    exact ⟨#[], hT q hq, True.intro, fun pos cv hc => by
      have z : codeAmong pos [] = some cv := hc
      simp [codeAmong] at z⟩
  · rw [hs]
    exact fun G' hs' H' _ _ v hv => rep_bl.mp hv
theorem cx_no {P : Program} {w : World} {H : Hp} {s : Shared} {e : Value} {s' : Shared} (h : L2.CX P w [] H s (fun _ _ _ => False) e s') : False := by
  obtain ⟨_, _, _, _, _, _, _, _, _, _, _, _, z⟩ := h
  exact z
theorem binds_one {K : PySem.W.Frag} {x q : Str} {st : Stmt} {f : Addr} {fd : FuncData} {a : Str} (F : Fun K x q st f fd) (h : ∀ (kV doc pm : Value) (an : Option Addr) (cdv ct u : Value), bindArgs (PySem.W.fnOf x q (defArgs st) (defBody st) (defScope st) .none kV doc pm an cdv ct) ⟨[u], []⟩ = pure [(a, u)]) (s : Shared) (u : Value) :
    BindsTo s fd ⟨[u], []⟩ [(a, u)] := by
  obtain ⟨oc, od, kV, doc, pm, an, cdv, ct, osl, rfl, lk, hcd⟩ := F.ex
  exact .of_eq (h kV doc pm an cdv ct u)
end DL
set_option Elab.async false
set_option linter.all false
set_option maxRecDepth 100000
set_option maxHeartbeats 2000000
namespace DL
open PySem L2
def F.then (r : F) (g : DL.Env → DS → F) : F := match r with
  | .nx η' s' => g η' s'
  | r => r
def R.bnd {α β : Type} (r : R α) (k : α → DS → R β) : R β := match r with
  | .ok a s => k a s
  | .ex c p s => .ex c p s
  | .bad => .bad
section
variable {α β : Type} {η : DL.Env} {s s' : DS} {f g : DL.Env → DS → F} {fa fb fc : DL.Env → DS → R D} {ft : DL.Env → DS → R Bool} {c : Nat} {p : List D} {d : D} {a : α} {i n : Nat}
theorem seqB_eq : seqB f g η s = (f η s).then g := rfl
theorem then_nx : (F.nx η s).then g = g η s := rfl
theorem then_rt : (F.rt d s).then g = .rt d s := rfl
theorem then_bk : (F.bk η s).then g = .bk η s := rfl
theorem then_ct : (F.ct η s).then g = .ct η s := rfl
theorem then_ex : (F.ex c p η s).then g = .ex c p η s := rfl
theorem then_bad : F.bad.then g = .bad := rfl
theorem bind_ok {k : α → DS → R β} : (R.ok a s).bnd k = k a s := rfl
theorem bind_ex {k : α → DS → R β} : (R.ex c p s).bnd k = .ex c p s := rfl
theorem bind_bad {k : α → DS → R β} : (R.bad : R α).bnd k = .bad := rfl
theorem toF_ok {k : α → DS → F} : (R.ok a s).toF η k = k a s := rfl
theorem toF_ex {k : α → DS → F} : (R.ex c p s : R α).toF η k = .ex c p η s := rfl
theorem toF_bad {k : α → DS → F} : (R.bad : R α).toF η k = .bad := rfl
theorem ofO_some : R.ofO (some a) s = .ok a s := rfl
theorem ofO_none : R.ofO (none : Option α) s = .bad := rfl
theorem nx_ok : (R.ok a s).nx = .ok a s := rfl
theorem cD_eq : cD d η s = .ok d s := rfl
theorem vD_0 : vD 0 (.v d :: η) s = .ok d s := rfl
theorem vD_s {x : Sl} : vD (i + 1) (x :: η) s = vD i η s := rfl
theorem vB_0 : vB 0 (.v d :: η) s = .ok d s := rfl
theorem vB_o : vB 0 (.o d :: η) s = .ok d s := rfl
theorem vB_s {x : Sl} : vB (i + 1) (x :: η) s = vB i η s := rfl
theorem bopD_eq {o : D → D → Option D} : bopD o fa fb η s = (fa η s).bnd fun x s1 => (fb η s1).bnd fun y s2 => R.ofO (o (deref s2 x) (deref s2 y)) s2 := rfl
theorem uopD_eq {o : D → Option D} : uopD o fa η s = (fa η s).bnd fun x s1 => R.ofO (o (deref s1 x)) s1 := rfl
theorem tstD_eq : tstD fa η s = (fa η s).bnd fun x s1 => R.ofO (asB x) s1 := rfl
theorem asB_bl {b : Bool} : asB (.bl b) = some b := rfl
theorem asI_int {i : Int} : asI (.int i) = some i := rfl
theorem deref_int {i : Int} : deref s (.int i) = .int i := rfl
theorem deref_bl {i : Bool} : deref s (.bl i) = .bl i := rfl
theorem deref_str {i : Str} : deref s (.str i) = .str i := rfl
theorem deref_non : deref s .non = .non := rfl
theorem deref_tup {l : List D} : deref s (.tup l) = .tup l := rfl
theorem deref_lst {l : List D} : deref s (.lst l) = .lst l := rfl
theorem deref_dic {l : List (D × D)} : deref s (.dic l) = .dic l := rfl
theorem deref_obj {l : List D} : deref s (.obj c l) = .obj c l := rfl
theorem deref_scr {l : List Int} : deref s (.scr l) = .scr l := rfl
theorem chD_eq {o o' : D → D → Option D} : chD o o' fa fb fc η s = (fa η s).bnd fun x s1 => (fb η s1).bnd fun y s2 => (R.ofO (o (deref s2 x) (deref s2 y)) s2).bnd fun z s3 =>
  (R.ofO (asB z) s3).bnd fun k s3 => if k = true then (fc η s3).bnd fun w s4 => R.ofO (o' (deref s4 y) (deref s4 w)) s4 else .ok (.bl false) s3 := rfl
theorem andT_eq {f g : DL.Env → DS → R Bool} : andT f g η s = (f η s).bnd fun b s1 => if b = true then g η s1 else .ok false s1 := rfl
theorem orT_eq {f g : DL.Env → DS → R Bool} : orT f g η s = (f η s).bnd fun b s1 => if b = true then .ok true s1 else g η s1 := rfl
theorem notT_eq {f : DL.Env → DS → R Bool} : notT f η s = (f η s).bnd fun b s1 => .ok (!b) s1 := rfl
theorem ifD_eq : ifD ft fa fb η s = (ft η s).bnd fun b s1 => if b = true then fa η s1 else fb η s1 := rfl
theorem andD_eq : andD fa fb η s = (tstD fa η s).bnd fun b s1 => if b = true then fb η s1 else .ok (.bl false) s1 := rfl
theorem orD_eq : orD fa fb η s = (tstD fa η s).bnd fun b s1 => if b = true then .ok (.bl true) s1 else fb η s1 := rfl
theorem notD_eq : notD fa η s = (tstD fa η s).bnd fun b s1 => .ok (.bl (!b)) s1 := rfl
theorem nilA_eq : nilA η s = .ok [] s := rfl
theorem consA_eq {ga : DL.Env → DS → R (List D)} : consA fa ga η s = (fa η s).bnd fun d s1 => (ga η s1).bnd fun ds s2 => .ok (d :: ds) s2 := rfl
theorem tupD_eq {ga : DL.Env → DS → R (List D)} : tupD ga η s = (ga η s).bnd fun ds s1 => if ds.length ≤ 16777216 then .ok (.tup ds) s1 else .bad := rfl
theorem lstD_eq {ga : DL.Env → DS → R (List D)} : lstD ga η s = (ga η s).bnd fun ds s1 => if ds.length ≤ 16777216 then .ok (.lst ds) s1 else .bad := rfl
theorem fldD_eq : fldD c i fa η s = (fa η s).bnd fun x s1 => R.ofO (fldO c i (deref s1 x)) s1 := rfl
theorem bltD_eq {o : List D → Option D} {ga : DL.Env → DS → R (List D)} : bltD o ga η s = (ga η s).bnd fun ds s1 => R.ofO (o (ds.map (deref s1))) s1 := rfl
theorem partN_eq : partN η s = .ok none s := rfl
theorem partS_eq : partS fa η s = (fa η s).bnd fun d s1 => (R.ofO (asI d) s1).bnd fun i s2 => .ok (some i) s2 := rfl
theorem sliceD_eq {fl fh : DL.Env → DS → R (Option Int)} : sliceD fa fl fh η s = (fa η s).bnd fun x s1 => (fl η s1).bnd fun l s2 => (fh η s2).bnd fun u s3 => R.ofO (opCut (deref s3 x) l u) s3 := rfl
theorem callD_eq {g : List D → DS → R D} {ga : DL.Env → DS → R (List D)} : callD g ga η s = (ga η s).bnd fun ds s1 => g ds s1 := rfl
theorem gateD_eq {g : List D → DS → R D} {l : List D} : gateD n g l s = if l.length = n then g l s else .bad := rfl
theorem methD_eq {g : List D → DS → R D} {fo : DL.Env → DS → R D} {ga : DL.Env → DS → R (List D)} : methD c g fo ga η s = (fo η s).bnd fun o s1 => if isC c (deref s1 o) = true then (ga η s1).bnd fun ds s2 => g (o :: ds) s2 else .bad := rfl
theorem isC_obj {c' : Nat} {l : List D} : isC c (.obj c' l) = (c' == c) := rfl
theorem calmD_eq : calmD fa η s = (fa η s).bnd fun d s1 => if notObj d = true then .ok d s1 else .bad := rfl
def calmK (c n : Nat) (d : D) (s : DS) : R D := match d with
  | .obj c' ds => if c' = c ∧ ds.length = n then .ok d s else .bad
  | _ => .bad
theorem calmN_eq : calmN c n fa η s = (fa η s).bnd (calmK c n) := rfl
theorem calmK_obj {l : List D} : calmK c n (.obj c l) s = if l.length = n then .ok (.obj c l) s else .bad := by
  unfold calmK
  simp only [true_and]
theorem hanD_eq : hanD fa η s = (fa η s).bnd fun d s1 => .ok (.han s1.length) (s1 ++ [d]) := rfl
theorem setB_eq : setB i fa η s = (fa η s).toF η fun d s1 => setF η i d s1 := rfl
theorem setOB_eq : setOB i fa η s = (fa η s).toF η fun d s1 => setOF η i d s1 := rfl
theorem setF_eq : setF η i d s = if i < η.length then .nx (η.set i (.v d)) s else .bad := rfl
theorem setOF_eq : setOF η i d s = if 0 < i ∧ i < η.length then .nx (η.set i (.o d)) s else .bad := rfl
theorem ifB_eq : ifB ft f g η s = (ft η s).toF η fun b s1 => if b = true then f η s1 else g η s1 := rfl
theorem retB_eq : retB fa η s = (fa η s).toF η fun d s1 => .rt d s1 := rfl
theorem retN_eq : retN η s = .rt .non s := rfl
theorem dropB_eq : dropB fa η s = (fa η s).toF η fun _ s1 => .nx η s1 := rfl
theorem nextB_eq : nextB η s = .nx η s := rfl
theorem breakB_eq : breakB η s = .bk η s := rfl
theorem contB_eq : contB η s = .ct η s := rfl
theorem raiseA_eq {ga : DL.Env → DS → R (List D)} : raiseA c ga η s = (ga η s).toF η fun _ s1 => .ex c [] η s1 := rfl
theorem augB_eq {o : D → D → Option D} : augB i o fa η s = (bopD o (vD i) fa η s).toF η fun d s1 => setF η i d s1 := rfl
theorem frzB_eq {is : List Nat} : frzB is f η s = f (frzL is η) s := rfl
def asgK (f : D → DL.Env → Option DL.Env) (η : DL.Env) (d : D) (s : DS) : F := match f d η with
  | some η' => .nx η' s
  | none => .bad
theorem asgB_eq {f : D → DL.Env → Option DL.Env} : asgB f fa η s = (fa η s).toF η (asgK f η) := rfl
theorem asg2B_eq {f1 f2 : D → DL.Env → Option DL.Env} : asg2B f1 f2 fa η s = (fa η s).toF η fun d s1 => asgK (fun d η => (f1 d η).bind (f2 d)) η d s1 := rfl
theorem parB_eq {is : List Nat} {ga : DL.Env → DS → R (List D)} : parB is ga η s = (ga η s).toF η fun ds s1 => parB.putAll is ds η s1 := rfl
theorem putAll_nil : parB.putAll [] [] η s = .nx η s := rfl
theorem putAll_cons {is : List Nat} {ds : List D} : parB.putAll (i :: is) (d :: ds) η s = if i < η.length then parB.putAll is ds (η.set i (.v d)) s else .bad := rfl
def asgFK (is : List Nat) (η : DL.Env) (l : List Sl) (s : DS) : F := match putS is l η with
  | some η' => .nx η' s
  | none => .bad
theorem asgFB_eq {is : List Nat} {ga : DL.Env → DS → R (List Sl)} : asgFB is ga η s = (ga η s).toF η (asgFK is η) := rfl
theorem nilF_eq : nilF η s = .ok [] s := rfl
theorem consV_eq {ga : DL.Env → DS → R (List Sl)} : consV fa ga η s = (fa η s).bnd fun d s1 => (ga η s1).bnd fun ds s2 => .ok (.v d :: ds) s2 := rfl
theorem consO_eq {ga : DL.Env → DS → R (List Sl)} : consO fa ga η s = (fa η s).bnd fun d s1 => (ga η s1).bnd fun ds s2 => .ok (.o d :: ds) s2 := rfl
theorem gN_eq : gN i d η = if i < η.length then some (η.set i (.v d)) else none := rfl
theorem gsN_eq : gsN [] η = some η := rfl
theorem gsC_eq {f : D → DL.Env → Option DL.Env} {g : List D → DL.Env → Option DL.Env} {ds : List D} : gsC f g (d :: ds) η = (f d η).bind (g ds) := rfl
theorem gT_eq {g : List D → DL.Env → Option DL.Env} {ds : List D} : gT g (.tup ds) η = g ds η := rfl
def fnK (r : F) : R D := match r with
  | .nx _ s1 => .ok .non s1
  | .rt d s1 => .ok d s1
  | .ex c p _ s1 => .ex c p s1
  | _ => .bad
theorem fnD_eq {l : List D} : fnD n f l s = fnK (f (padE n (l.map .v)) s) := rfl
theorem fnK_nx : fnK (.nx η s) = .ok .non s := rfl
theorem fnK_rt : fnK (.rt d s) = .ok d s := rfl
theorem fnK_ex : fnK (.ex c p η s) = .ex c p s := rfl
theorem fnK_bad : fnK .bad = .bad := rfl
def inK (r : F) : R D := match r with
  | .nx η s1 => (match η[0]? with
    | some (Sl.o d) => .ok d s1
    | _ => .bad)
  | .ex c p _ s1 => .ex c p s1
  | _ => .bad
theorem inD_eq {l : List D} : inD c n f l s = inK (f (padE n (.o (.obj c []) :: l.map .v)) s) := rfl
theorem inK_nx : inK (.nx (.o d :: η) s) = .ok d s := rfl
theorem inK_ex : inK (.ex c p η s) = .ex c p s := rfl
def toldK (l : List (Nat × Str)) (r : R D) : R D := match r with
  | .ok d s1 => .ok d s1
  | .ex c _ s1 => (match l.lookup c with
    | some r => .ok (.str r) s1
    | none => .bad)
  | .bad => .bad
theorem toldD_eq {l : List (Nat × Str)} : toldD l fa η s = toldK l (fa η s) := rfl
end
theorem opAdd_int {a b : Int} : opAdd (.int a) (.int b) = some (.int (a + b)) := rfl
theorem opAug_int {a b : Int} : opAug (.int a) (.int b) = some (.int (a + b)) := rfl
theorem opSub_int {a b : Int} : opSub (.int a) (.int b) = some (.int (a - b)) := rfl
theorem opMul_int {a b : Int} (h : (-18446744073709551616 < a ∧ a < 18446744073709551616) ∨ (-18446744073709551616 < b ∧ b < 18446744073709551616)) : opMul (.int a) (.int b) = some (.int (a * b)) := by
  unfold opMul
  simp only
  rw [if_pos]
  simpa [small64, Bool.or_eq_true, cl_iff] using h
theorem opMul_r {a b : Int} (h : -18446744073709551616 < b ∧ b < 18446744073709551616) : opMul (.int a) (.int b) = some (.int (a * b)) := opMul_int (.inr h)
theorem opMul_l {a b : Int} (h : -18446744073709551616 < a ∧ a < 18446744073709551616) : opMul (.int a) (.int b) = some (.int (a * b)) := opMul_int (.inl h)
theorem opMulI_int {a b : Int} (h : (-18446744073709551616 < a ∧ a < 18446744073709551616) ∨ (-18446744073709551616 < b ∧ b < 18446744073709551616)) : opMulI (.int a) (.int b) = some (.int (a * b)) := by
  unfold opMulI
  simp only
  rw [if_pos]
  simpa [small64, Bool.or_eq_true, cl_iff] using h
theorem opMulI_r {a b : Int} (h : -18446744073709551616 < b ∧ b < 18446744073709551616) : opMulI (.int a) (.int b) = some (.int (a * b)) := opMulI_int (.inr h)
theorem opMulI_l {a b : Int} (h : -18446744073709551616 < a ∧ a < 18446744073709551616) : opMulI (.int a) (.int b) = some (.int (a * b)) := opMulI_int (.inl h)
theorem opDiv_int {a b : Int} (h : 0 < b ∧ b < 18446744073709551616) : opDiv (.int a) (.int b) = some (.int (a / b)) := if_pos (cl_yes h)
theorem opMod_int {a b : Int} (h : 0 < b) : opMod (.int a) (.int b) = some (.int (a % b)) := if_pos h
theorem opLt_int {a b : Int} : opLt (.int a) (.int b) = some (.bl (decide (a < b))) := rfl
theorem opLe_int {a b : Int} : opLe (.int a) (.int b) = some (.bl (decide (a ≤ b))) := rfl
theorem opGt_int {a b : Int} : opGt (.int a) (.int b) = some (.bl (decide (b < a))) := rfl
theorem opGe_int {a b : Int} : opGe (.int a) (.int b) = some (.bl (decide (b ≤ a))) := rfl
theorem opEq_int {a b : Int} : opEq (.int a) (.int b) = some (.bl (decide (a = b))) := by
  show some (D.bl (a == b)) = _
  congr 2
theorem opNe_int {a b : Int} : opNe (.int a) (.int b) = some (.bl (!decide (a = b))) := by
  show some (D.bl (!(a == b))) = _
  congr 3
theorem min2_int {a b : Int} : min2O [.int a, .int b] = some (.int (min a b)) := by
  show some (D.int (if b < a then b else a)) = _
  congr 2
  split <;> omega
theorem max2_int {a b : Int} : max2O [.int a, .int b] = some (.int (max a b)) := by
  show some (D.int (if b > a then b else a)) = _
  congr 2
  split <;> omega
theorem absO_int {a : Int} : absO [.int a] = some (.int (a.natAbs : Int)) := by
  show some (D.int (if a < 0 then -a else a)) = _
  congr 2
  split <;> omega
theorem intO_int {a : Int} : intO [.int a] = some (.int a) := rfl
theorem intO_bl {a : Bool} : intO [.bl a] = some (.int (if a then 1 else 0)) := rfl
theorem fldO_eq {c i : Nat} {ds : List D} : fldO c i (.obj c ds) = ds[i]? := if_pos rfl
theorem opIx_t {ds : List D} {i : Int} : opIx (.tup ds) (.int i) = atI ds i := rfl
theorem opIx_l {ds : List D} {i : Int} : opIx (.lst ds) (.int i) = atI ds i := rfl
theorem ite_yes {α : Sort _} {c : Prop} [Decidable c] {a b : α} (h : c) : (if c then a else b) = a := if_pos h
theorem ite_no {α : Sort _} {c : Prop} [Decidable c] {a b : α} (h : ¬ c) : (if c then a else b) = b := if_neg h
theorem dec_yes {p : Prop} [Decidable p] (h : p) : decide p = true := decide_eq_true h
theorem dec_no {p : Prop} [Decidable p] (h : ¬ p) : decide p = false := decide_eq_false h
section
variable {α β : Type} {η : DL.Env} {s s' : DS} {f g : DL.Env → DS → F} {fa fb fc : DL.Env → DS → R D} {ft : DL.Env → DS → R Bool} {c : Nat} {p : List D} {d x : D} {i j k n : Nat}
def plK (o : Option Sl) (i : Nat) (s : DS) : R Plc := match o with
  | some (.o _) => .ok (.slot i) s
  | some (.v (.han k)) => .ok (.han k) s
  | _ => .bad
theorem plV_eq : plV i η s = plK η[i]? i s := rfl
theorem plK_o : plK (some (.o d)) i s = .ok (.slot i) s := rfl
theorem plK_h : plK (some (.v (.han k))) i s = .ok (.han k) s := rfl
def plEK (d : D) (s : DS) : R Plc := match d with
  | .han k => .ok (.han k) s
  | _ => .bad
theorem plE_eq : plE fa η s = (fa η s).bnd plEK := rfl
theorem plEK_h : plEK (.han k) s = .ok (.han k) s := rfl
def wrSU (o : Option D) (i : Nat) (η : DL.Env) (s : DS) : F := match o with
  | some d' => .nx (η.set i (.o d')) s
  | none => .bad
def wrS (o : Option Sl) (u : D → Option D) (i : Nat) (η : DL.Env) (s : DS) : F := match o with
  | some (.o d) => wrSU (u d) i η s
  | _ => .bad
def wrHU (o : Option D) (k : Nat) (η : DL.Env) (s : DS) : F := match o with
  | some d' => .nx η (s.set k d')
  | none => .bad
def wrH (o : Option D) (u : D → Option D) (k : Nat) (η : DL.Env) (s : DS) : F := match o with
  | some d => wrHU (u d) k η s
  | none => .bad
theorem wrF_slot {u : D → Option D} : wrF (.slot i) u η s = wrS η[i]? u i η s := by
  show (match (match η[i]? with | some (.o d) => some d | _ => none) with | some d => (match u d with | some d' => F.nx (η.set i (.o d')) s | none => .bad) | none => F.bad) = _
  unfold wrS wrSU
  generalize η[i]? = o
  cases o with
  | none => rfl
  | some x => cases x <;> rfl
theorem wrF_han {u : D → Option D} : wrF (.han k) u η s = wrH s[k]? u k η s := by
  show (match s[k]? with | some d => (match u d with | some d' => F.nx η (s.set k d') | none => .bad) | none => F.bad) = _
  unfold wrH wrHU
  generalize s[k]? = o
  cases o <;> rfl
theorem wrS_o {u : D → Option D} : wrS (some (.o d)) u i η s = wrSU (u d) i η s := rfl
theorem wrH_s {u : D → Option D} : wrH (some d) u k η s = wrHU (u d) k η s := rfl
theorem wrSU_s : wrSU (some d) i η s = .nx (η.set i (.o d)) s := rfl
theorem wrHU_s : wrHU (some d) k η s = .nx η (s.set k d) := rfl
theorem fldB_eq {fp : DL.Env → DS → R Plc} : fldB c j fa fp η s = (fa η s).toF η fun x s1 => (fp η s1).toF η fun pl s2 => wrF pl (fldU c j x) η s2 := rfl
theorem fldU_eq {ds : List D} : fldU c j x (.obj c ds) = if j ≤ ds.length then some (.obj c (if j < ds.length then ds.set j x else ds ++ [x])) else none := by
  unfold fldU
  simp only [true_and]
theorem stB_eq {fp : DL.Env → DS → R Plc} {fi : DL.Env → DS → R D} {u : D → D → D → Option D} : stB fa fp fi u η s = (fa η s).toF η fun x s1 => (fp η s1).toF η fun pl s2 => (fi η s2).toF η fun i s3 => wrF pl (u i x) η s3 := rfl
def stAK (o : Option D) (k : D → F) : F := match o with
  | some x => k x
  | none => .bad
theorem stAK_s {k : D → F} : stAK (some d) k = k d := rfl
theorem stAugB_eq {fp : DL.Env → DS → R Plc} {fi : DL.Env → DS → R D} {g o : D → D → Option D} {u : D → D → D → Option D} : stAugB fp fi g o fa u η s = (fp η s).toF η fun pl s1 => (fi η s1).toF η fun i s2 =>
    stAK ((plcD pl η s2).bind (g i)) fun x => (fa η s2).toF η fun y s3 => stAK (o (deref s3 x) (deref s3 y)) fun z => wrF pl (u i z) η s3 := rfl
theorem fldAugB_eq {fp : DL.Env → DS → R Plc} {o : D → D → Option D} : fldAugB c j fp o fa η s = (fp η s).toF η fun pl s1 => stAK ((plcD pl η s1).bind (fldO c j)) fun x => (fa η s1).toF η fun y s2 => stAK (o (deref s2 x) (deref s2 y)) fun z => wrF pl (fldU c j z) η s2 := rfl
def plS (o : Option Sl) : Option D := match o with
  | some (.o d) => some d
  | _ => none
theorem plcD_slot : plcD (.slot i) η s = plS η[i]? := rfl
theorem plcD_han : plcD (.han k) η s = s[k]? := rfl
theorem plS_o : plS (some (.o d)) = some d := rfl
theorem mtB_eq {ty : D → Bool} {fp : DL.Env → DS → R Plc} {ga : DL.Env → DS → R (List D)} {u : List D → D → Option D} : mtB ty fp ga u η s = (fp η s).toF η fun pl s1 => stAK (plcD pl η s1) fun d0 => if ty d0 = true then (ga η s1).toF η fun ds s2 => wrF pl (u ds) η s2 else .bad := rfl
theorem isLst_l {l : List D} : isLst (.lst l) = true := rfl
theorem appU_l {l : List D} : appU [x] (.lst l) = if l.length < 16777216 then some (.lst (l ++ [x])) else none := rfl
theorem setL_l {l : List D} {k : Int} : setL (.int k) x (.lst l) = (ixN l.length k).map fun j => .lst (l.set j x) := rfl
theorem getL_l {l : List D} {k : Int} : getL (.int k) (.lst l) = atI l k := rfl
theorem ixN_ok {n : Nat} {k : Int} (h : 0 ≤ k ∧ k < n) : ixN n k = some k.toNat := by
  unfold ixN
  rw [if_pos h.1, if_pos h.2]
theorem atI_0 {x : D} {l : List D} : atI (x :: l) 0 = some x := by
  unfold atI ixN
  rw [if_pos (by omega), if_pos (by rw [List.length_cons]; omega)]
  rfl
theorem atI_1 {x0 x1 : D} {l : List D} : atI (x0 :: x1 :: l) 1 = some x1 := by
  unfold atI ixN
  rw [if_pos (by omega), if_pos (by simp only [List.length_cons]; omega)]
  rfl
theorem atI_2 {x0 x1 x2 : D} {l : List D} : atI (x0 :: x1 :: x2 :: l) 2 = some x2 := by
  unfold atI ixN
  rw [if_pos (by omega), if_pos (by simp only [List.length_cons]; omega)]
  rfl
theorem atI_3 {x0 x1 x2 x3 : D} {l : List D} : atI (x0 :: x1 :: x2 :: x3 :: l) 3 = some x3 := by
  unfold atI ixN
  rw [if_pos (by omega), if_pos (by simp only [List.length_cons]; omega)]
  rfl
theorem atI_4 {x0 x1 x2 x3 x4 : D} {l : List D} : atI (x0 :: x1 :: x2 :: x3 :: x4 :: l) 4 = some x4 := by
  unfold atI ixN
  rw [if_pos (by omega), if_pos (by simp only [List.length_cons]; omega)]
  rfl
theorem atI_5 {x0 x1 x2 x3 x4 x5 : D} {l : List D} : atI (x0 :: x1 :: x2 :: x3 :: x4 :: x5 :: l) 5 = some x5 := by
  unfold atI ixN
  rw [if_pos (by omega), if_pos (by simp only [List.length_cons]; omega)]
  rfl
theorem atI_6 {x0 x1 x2 x3 x4 x5 x6 : D} {l : List D} : atI (x0 :: x1 :: x2 :: x3 :: x4 :: x5 :: x6 :: l) 6 = some x6 := by
  unfold atI ixN
  rw [if_pos (by omega), if_pos (by simp only [List.length_cons]; omega)]
  rfl
theorem atI_7 {x0 x1 x2 x3 x4 x5 x6 x7 : D} {l : List D} : atI (x0 :: x1 :: x2 :: x3 :: x4 :: x5 :: x6 :: x7 :: l) 7 = some x7 := by
  unfold atI ixN
  rw [if_pos (by omega), if_pos (by simp only [List.length_cons]; omega)]
  rfl
theorem atI_8 {x0 x1 x2 x3 x4 x5 x6 x7 x8 : D} {l : List D} : atI (x0 :: x1 :: x2 :: x3 :: x4 :: x5 :: x6 :: x7 :: x8 :: l) 8 = some x8 := by
  unfold atI ixN
  rw [if_pos (by omega), if_pos (by simp only [List.length_cons]; omega)]
  rfl
theorem atI_9 {x0 x1 x2 x3 x4 x5 x6 x7 x8 x9 : D} {l : List D} : atI (x0 :: x1 :: x2 :: x3 :: x4 :: x5 :: x6 :: x7 :: x8 :: x9 :: l) 9 = some x9 := by
  unfold atI ixN
  rw [if_pos (by omega), if_pos (by simp only [List.length_cons]; omega)]
  rfl
theorem atI_10 {x0 x1 x2 x3 x4 x5 x6 x7 x8 x9 x10 : D} {l : List D} : atI (x0 :: x1 :: x2 :: x3 :: x4 :: x5 :: x6 :: x7 :: x8 :: x9 :: x10 :: l) 10 = some x10 := by
  unfold atI ixN
  rw [if_pos (by omega), if_pos (by simp only [List.length_cons]; omega)]
  rfl
theorem atI_11 {x0 x1 x2 x3 x4 x5 x6 x7 x8 x9 x10 x11 : D} {l : List D} : atI (x0 :: x1 :: x2 :: x3 :: x4 :: x5 :: x6 :: x7 :: x8 :: x9 :: x10 :: x11 :: l) 11 = some x11 := by
  unfold atI ixN
  rw [if_pos (by omega), if_pos (by simp only [List.length_cons]; omega)]
  rfl
theorem atI_12 {x0 x1 x2 x3 x4 x5 x6 x7 x8 x9 x10 x11 x12 : D} {l : List D} : atI (x0 :: x1 :: x2 :: x3 :: x4 :: x5 :: x6 :: x7 :: x8 :: x9 :: x10 :: x11 :: x12 :: l) 12 = some x12 := by
  unfold atI ixN
  rw [if_pos (by omega), if_pos (by simp only [List.length_cons]; omega)]
  rfl
theorem atI_13 {x0 x1 x2 x3 x4 x5 x6 x7 x8 x9 x10 x11 x12 x13 : D} {l : List D} : atI (x0 :: x1 :: x2 :: x3 :: x4 :: x5 :: x6 :: x7 :: x8 :: x9 :: x10 :: x11 :: x12 :: x13 :: l) 13 = some x13 := by
  unfold atI ixN
  rw [if_pos (by omega), if_pos (by simp only [List.length_cons]; omega)]
  rfl
theorem atI_14 {x0 x1 x2 x3 x4 x5 x6 x7 x8 x9 x10 x11 x12 x13 x14 : D} {l : List D} : atI (x0 :: x1 :: x2 :: x3 :: x4 :: x5 :: x6 :: x7 :: x8 :: x9 :: x10 :: x11 :: x12 :: x13 :: x14 :: l) 14 = some x14 := by
  unfold atI ixN
  rw [if_pos (by omega), if_pos (by simp only [List.length_cons]; omega)]
  rfl
theorem atI_15 {x0 x1 x2 x3 x4 x5 x6 x7 x8 x9 x10 x11 x12 x13 x14 x15 : D} {l : List D} : atI (x0 :: x1 :: x2 :: x3 :: x4 :: x5 :: x6 :: x7 :: x8 :: x9 :: x10 :: x11 :: x12 :: x13 :: x14 :: x15 :: l) 15 = some x15 := by
  unfold atI ixN
  rw [if_pos (by omega), if_pos (by simp only [List.length_cons]; omega)]
  rfl
theorem atI_at {l : List D} {i : Int} (h : 0 ≤ i ∧ i < l.length) : atI l i = l[i.toNat]? := by
  unfold atI
  rw [ixN_ok h]
  rfl
theorem deref_han {l : DS} : deref (d :: l) (.han 0) = d := rfl
theorem notObj_l {l : List D} : notObj (.lst l) = true := rfl
theorem notObj_t {l : List D} : notObj (.tup l) = true := rfl
theorem notObj_d {l : List (D × D)} : notObj (.dic l) = false := rfl
theorem forB_eq {fi : DL.Env → DS → R (List D)} {put : D → DL.Env → Option DL.Env} : forB fi put f η s = (fi η s).toF η fun ds s1 => forF put f ds η s1 := rfl
theorem rngD_eq {o : List D → Option (List D)} {ga : DL.Env → DS → R (List D)} : rngD o ga η s = (ga η s).bnd fun ds s1 => R.ofO (o ds) s1 := rfl
theorem iterD_eq {o : D → Option (List D)} : iterD o fa η s = (fa η s).bnd fun d s1 => R.ofO (o d) s1 := rfl
theorem rng1_int {k : Int} (h : -4611686018427387904 ≤ k ∧ k < 4611686018427387904) : rng1 [.int k] = some (rngL 0 k.toNat) := by
  unfold rng1 small62
  simp only [cl_yes h.1, cl_yes h.2, Bool.and_self, if_true]
theorem rng2_int {j k : Int} (h : -4611686018427387904 ≤ j ∧ j < 4611686018427387904) (h2 : -4611686018427387904 ≤ k ∧ k < 4611686018427387904) : rng2 [.int j, .int k] = some (rngL j (k - j).toNat) := by
  unfold rng2 small62
  simp only [cl_yes h.1, cl_yes h.2, cl_yes h2.1, cl_yes h2.2, Bool.and_self, if_true]
theorem scrO_l {l : List D} : scrO (.lst l) = some l := rfl
theorem scrO_s {l : List Int} : scrO (.scr l) = some (l.map D.int) := rfl
theorem lstO_l {l : List D} : lstO (.lst l) = some l := rfl
theorem tupO_l {l : List D} : tupO (.tup l) = some l := rfl
theorem rngL_map : ∀ (n : Nat) (lo : Int), rngL lo n = (List.range n).map fun i : Nat => D.int (lo + (i : Int))
  | 0, _ => rfl
  | n + 1, lo => by
    rw [rngL, rngL_map n, List.range_succ_eq_map, List.map_cons, List.map_map]
    congr 1
    · simp
    · apply List.map_congr_left
      intro a _
      simp only [Function.comp]
      congr 1
      omega
theorem rngL_len (n : Nat) (lo : Int) : (rngL lo n).length = n := by rw [rngL_map]; simp
def goK (r : F) (k : DL.Env → DS → F) : F := match r with
  | .nx η2 s2 => k η2 s2
  | .ct η2 s2 => k η2 s2
  | .bk η2 s2 => .nx η2 s2
  | r => r
def putK (o : Option DL.Env) (k : DL.Env → F) : F := match o with
  | some η => k η
  | none => .bad
theorem forF_nil {put : D → DL.Env → Option DL.Env} : forF put f [] η s = .nx η s := rfl
theorem forF_cons {put : D → DL.Env → Option DL.Env} {l : List D} : forF put f (d :: l) η s = putK (put d η) fun η1 => goK (f η1 s) (forF put f l) := by
  rw [forF]
  cases put d η with
  | none => rfl
  | some η1 =>
    show (match f η1 s with
      | .nx η2 s2 => forF put f l η2 s2
      | .ct η2 s2 => forF put f l η2 s2
      | .bk η2 s2 => .nx η2 s2
      | r => r) = goK (f η1 s) (forF put f l)
    unfold goK
    generalize f η1 s = r
    cases r <;> rfl
theorem putK_some {k : DL.Env → F} : putK (some η) k = k η := rfl
theorem goK_nx {k : DL.Env → DS → F} : goK (.nx η s) k = k η s := rfl
theorem goK_ct {k : DL.Env → DS → F} : goK (.ct η s) k = k η s := rfl
theorem goK_bk {k : DL.Env → DS → F} : goK (.bk η s) k = .nx η s := rfl
theorem goK_rt {k : DL.Env → DS → F} : goK (.rt d s) k = .rt d s := rfl
theorem goK_ex {k : DL.Env → DS → F} {q : List D} : goK (.ex c q η s) k = .ex c q η s := rfl
theorem lcD_eq {fi : DL.Env → DS → R (List D)} {put : D → DL.Env → Option DL.Env} {vs : List Nat} : lcD fi put ft fa vs η s = (fi η s).bnd fun ds s1 => if ds.length ≤ 16777216 then (lcF put ft fa (wipeE η vs) ds s1).bnd fun ys s2 => .ok (.lst ys) s2 else .bad := rfl
theorem wipeE_nil : wipeE η [] = η := rfl
theorem wipeE_cons {v : Nat} {vs : List Nat} : wipeE η (v :: vs) = (wipeE η vs).set v .no := rfl
theorem yesT_eq : yesT η s = .ok true s := rfl
/-- a comprehension that changes nothing -/
theorem lcF_pure {γ : Type} {put : D → DL.Env → Option DL.Env} (e : γ → D) (t : γ → Bool) (y : γ → D) : ∀ (l : List γ), (∀ a ∈ l, ∃ η1, put (e a) η = some η1 ∧ ft η1 s = .ok (t a) s ∧ (t a = true → fa η1 s = .ok (y a) s)) → lcF put ft fa η (l.map e) s = .ok ((l.filter t).map y) s
  | [], _ => rfl
  | a :: l, h => by
    obtain ⟨η1, e1, e2, e3⟩ := h a List.mem_cons_self
    have ih := lcF_pure e t y l fun b hb => h b (List.mem_cons_of_mem _ hb)
    rw [List.map_cons, lcF, e1]
    simp only [e2, R.nx, R.bind, ih]
    cases q : t a with
    | false => simp only [Bool.false_eq_true, if_false, List.filter_cons, q]
    | true =>
      rw [e3 q]
      simp only [if_true, List.filter_cons, q, List.map_cons, ih]
theorem lcF_map {γ : Type} {put : D → DL.Env → Option DL.Env} (e : γ → D) (y : γ → D) (l : List γ) (h : ∀ a ∈ l, ∃ η1, put (e a) η = some η1 ∧ fa η1 s = .ok (y a) s) : lcF put yesT fa η (l.map e) s = .ok (l.map y) s := by
  rw [lcF_pure e (fun _ => true) y l fun a ha => by
    obtain ⟨η1, e1, e2⟩ := h a ha
    exact ⟨η1, e1, rfl, fun _ => e2⟩]
  rw [List.filter_eq_self.mpr (fun _ _ => rfl)]
end
theorem sIx_some {n d : Nat} {v : Int} (h : 0 ≤ v) : HT.sIx n d (some v) = min v.toNat n := if_neg (by omega)
theorem cut_to {l : List D} {k : Int} (h : 0 ≤ k) : cutD l none (some k) = l.take k.toNat := by
  unfold cutD
  rw [sIx_some h, HT.sIx_none, List.drop_zero, Nat.sub_zero]
  rcases Nat.le_total k.toNat l.length with q | q
  · rw [Nat.min_eq_left q]
  · rw [Nat.min_eq_right q, List.take_length, List.take_of_length_le q]
theorem cut_from {l : List D} {k : Int} (h : 0 ≤ k) : cutD l (some k) none = l.drop k.toNat := by
  unfold cutD
  rw [sIx_some h, HT.sIx_none]
  rcases Nat.le_total k.toNat l.length with q | q
  · rw [Nat.min_eq_left q, List.take_of_length_le (by rw [List.length_drop]; exact Nat.le_refl _)]
  · rw [Nat.min_eq_right q, List.drop_length, List.drop_eq_nil_of_le q]; simp
theorem cut_both {l : List D} {j k : Int} (h : 0 ≤ j) (h2 : 0 ≤ k) : cutD l (some j) (some k) = (l.drop j.toNat).take (k.toNat - j.toNat) := by
  unfold cutD
  rw [sIx_some h, sIx_some h2]
  rcases Nat.le_total j.toNat l.length with q | q
  · rw [Nat.min_eq_left q]
    rcases Nat.le_total k.toNat l.length with p | p
    · rw [Nat.min_eq_left p]
    · rw [Nat.min_eq_right p, List.take_of_length_le (by rw [List.length_drop]; exact Nat.le_refl _), List.take_of_length_le (by rw [List.length_drop]; omega)]
  · rw [Nat.min_eq_right q, List.drop_length, List.drop_eq_nil_of_le q]; simp
theorem opCut_l {l : List D} {j k : Option Int} : opCut (.lst l) j k = some (.lst (cutD l j k)) := rfl
theorem opCut_t {l : List D} {j k : Option Int} : opCut (.tup l) j k = some (.tup (cutD l j k)) := rfl
theorem opCut_s {l : List Int} {j k : Option Int} : opCut (.scr l) j k = some (.lst (cutD (l.map D.int) j k)) := rfl
theorem opPow_int {a b : Int} (h : 0 ≤ b ∧ b ≤ 1000 ∧ -1000000 ≤ a ∧ a ≤ 1000000) : opPow (.int a) (.int b) = some (.int (a ^ b.toNat)) := if_pos (cl_yes h)
theorem opAdd_tup {a b : List D} (h : a.length + b.length ≤ 16777216) : opAdd (.tup a) (.tup b) = some (.tup (a ++ b)) := if_pos h
theorem opAdd_lst {a b : List D} (h : a.length + b.length ≤ 16777216) : opAdd (.lst a) (.lst b) = some (.lst (a ++ b)) := if_pos h
mutual
def okN : Nat → D → Bool
  | _, .non => true
  | _, .bl _ => true
  | _, .int _ => true
  | _, .str x => PyData.strOk x
  | n + 1, .tup l => okNL n l
  | n + 1, .lst l => okNL n l
  | _, _ => false
def okNL : Nat → List D → Bool
  | _, [] => true
  | n, d :: l => okN n d && okNL n l
end
mutual
theorem okN_of : ∀ {n : Nat} {d : D}, okN n d = true → dOk d = true ∧ dDep d ≤ n
  | n, .non, _ => by simp [dOk, dDep]
  | n, .bl _, _ => by simp [dOk, dDep]
  | n, .int _, _ => by simp [dOk, dDep]
  | n, .str x, h => by
    have h1 : PyData.strOk x = true := by simpa [okN] using h
    simp [dOk, dDep, h1]
  | n + 1, .tup l, h => by
    obtain ⟨h1, h2⟩ := okNL_of (n := n) (l := l) (by simpa [okN] using h)
    simp [dOk, dDep, h1, h2]
  | n + 1, .lst l, h => by
    obtain ⟨h1, h2⟩ := okNL_of (n := n) (l := l) (by simpa [okN] using h)
    simp [dOk, dDep, h1, h2]
  | 0, .tup l, h => by simp [okN] at h
  | 0, .lst l, h => by simp [okN] at h
  | _, .dic _, h => by simp [okN] at h
  | _, .obj _ _, h => by simp [okN] at h
  | _, .han _, h => by simp [okN] at h
  | _, .scr _, h => by simp [okN] at h
theorem okNL_of : ∀ {n : Nat} {l : List D}, okNL n l = true → dOkL l = true ∧ dDepL l ≤ n
  | n, [], _ => by simp [dOkL, dDepL]
  | n, d :: l, h => by
    have h0 : okN n d = true ∧ okNL n l = true := by simpa [okNL] using h
    obtain ⟨h1, h2⟩ := okN_of h0.1
    obtain ⟨h3, h4⟩ := okNL_of h0.2
    simp [dOkL, dDepL, h1, h2, h3, h4]
    omega
end
theorem okN_eq {x y : D} {n : Nat} (h : okN n x = true) (h2 : okN n y = true) (hn : n ≤ 60) : eqOk x y = true := by
  obtain ⟨a, b⟩ := okN_of h
  obtain ⟨c, d⟩ := okN_of h2
  unfold eqOk
  simp only [a, c, Bool.and_true, Bool.true_and, Bool.and_eq_true, decide_eq_true_eq]
  omega
theorem opEq_ok {x y : D} (h : okN 9 x = true) (h2 : okN 9 y = true) : opEq x y = some (.bl (eqB x y)) := if_pos (okN_eq h h2 (by omega))
theorem opNe_ok {x y : D} (h : okN 9 x = true) (h2 : okN 9 y = true) : opNe x y = some (.bl (!eqB x y)) := if_pos (okN_eq h h2 (by omega))
theorem okNL_iff {n : Nat} : ∀ {l : List D}, okNL n l = true ↔ ∀ d ∈ l, okN n d = true
  | [] => by simp [okNL]
  | d :: l => by simp [okNL, okNL_iff]
theorem okNL_map {γ : Type} {n : Nat} {e : γ → D} {l : List γ} (h : ∀ a ∈ l, okN n (e a) = true) : okNL n (l.map e) = true := okNL_iff.mpr fun d hd => by
  obtain ⟨a, ha, rfl⟩ := List.mem_map.mp hd
  exact h a ha
theorem okNL_mi {γ : Type} {n : Nat} {f : γ → Int} {l : List γ} : okNL n (l.map fun a => D.int (f a)) = true := okNL_map fun _ _ => by simp [okN]
mutual
theorem eqB_self : ∀ {n : Nat} {d : D}, okN n d = true → eqB d d = true
  | n, .non, _ => by simp [eqB]
  | n, .bl _, _ => by simp [eqB]
  | n, .int _, _ => by simp [eqB]
  | n, .str x, h => by simp [eqB]
  | n + 1, .tup l, h => by
    have := eqBL_self (n := n) (l := l) (by simpa [okN] using h)
    simpa [eqB] using this
  | n + 1, .lst l, h => by
    have := eqBL_self (n := n) (l := l) (by simpa [okN] using h)
    simpa [eqB] using this
  | 0, .tup l, h => by simp [okN] at h
  | 0, .lst l, h => by simp [okN] at h
  | _, .dic _, h => by simp [okN] at h
  | _, .obj _ _, h => by simp [okN] at h
  | _, .han _, h => by simp [okN] at h
  | _, .scr _, h => by simp [okN] at h
theorem eqBL_self : ∀ {n : Nat} {l : List D}, okNL n l = true → eqBL l l = true
  | n, [], _ => by simp [eqBL]
  | n, d :: l, h => by
    have h0 : okN n d = true ∧ okNL n l = true := by simpa [okNL] using h
    simp [eqBL, eqB_self h0.1, eqBL_self h0.2]
end
theorem opNe_self {x : D} (h : okN 9 x = true) : opNe x x = some (.bl false) := by
  rw [opNe_ok h h, eqB_self h]
  rfl
theorem opEq_self {x : D} (h : okN 9 x = true) : opEq x x = some (.bl true) := by
  rw [opEq_ok h h, eqB_self h]
theorem opEq_lnil {d : D} {l : List D} (h : okN 9 (.lst (d :: l)) = true) : opEq (.lst (d :: l)) (.lst []) = some (.bl false) := by
  rw [opEq_ok h (by simp [okN, okNL])]
  simp [eqB, eqBL]
theorem opNe_lnil {d : D} {l : List D} (h : okN 9 (.lst (d :: l)) = true) : opNe (.lst (d :: l)) (.lst []) = some (.bl true) := by
  rw [opNe_ok h (by simp [okN, okNL])]
  simp [eqB, eqBL]
theorem opEq_nn : opEq (.lst []) (.lst []) = some (.bl true) := opEq_self (by simp [okN, okNL])
theorem opNe_nn : opNe (.lst []) (.lst []) = some (.bl false) := opNe_self (by simp [okN, okNL])
theorem opNe_is {a : Int} {x : Str} (h : PyData.strOk x = true) : opNe (.int a) (.str x) = some (.bl true) := by
  rw [opNe_ok (by simp [okN]) (by simpa [okN] using h)]
  simp [eqB]
theorem opEq_is {a : Int} {x : Str} (h : PyData.strOk x = true) : opEq (.int a) (.str x) = some (.bl false) := by
  rw [opEq_ok (by simp [okN]) (by simpa [okN] using h)]
  simp [eqB]
theorem opNe_si {a : Int} {x : Str} (h : PyData.strOk x = true) : opNe (.str x) (.int a) = some (.bl true) := by
  rw [opNe_ok (by simpa [okN] using h) (by simp [okN])]
  simp [eqB]
theorem opEq_si {a : Int} {x : Str} (h : PyData.strOk x = true) : opEq (.str x) (.int a) = some (.bl false) := by
  rw [opEq_ok (by simpa [okN] using h) (by simp [okN])]
  simp [eqB]
theorem opNe_ss {x y : Str} (h : PyData.strOk x = true) (h2 : PyData.strOk y = true) : opNe (.str x) (.str y) = some (.bl (!(x == y))) := by
  rw [opNe_ok (by simpa [okN] using h) (by simpa [okN] using h2)]
  simp [eqB]
theorem opEq_ss {x y : Str} (h : PyData.strOk x = true) (h2 : PyData.strOk y = true) : opEq (.str x) (.str y) = some (.bl (x == y)) := by
  rw [opEq_ok (by simpa [okN] using h) (by simpa [okN] using h2)]
  simp [eqB]
theorem opNe_bb {a b : Bool} : opNe (.bl a) (.bl b) = some (.bl (!(a == b))) := by
  rw [opNe_ok (by simp [okN]) (by simp [okN])]
  simp [eqB]
theorem opEq_bb {a b : Bool} : opEq (.bl a) (.bl b) = some (.bl (a == b)) := by
  rw [opEq_ok (by simp [okN]) (by simp [okN])]
  simp [eqB]
section
variable {η : DL.Env} {s : DS} {ft : DL.Env → DS → R Bool} {fe : DL.Env → DS → R D} {put : D → DL.Env → Option DL.Env} {d : D} {ds : List D}
def lcPut (o : Option DL.Env) (k : DL.Env → R (List D)) : R (List D) := match o with
  | some η => k η
  | none => .bad
theorem lcPut_some {k : DL.Env → R (List D)} : lcPut (some η) k = k η := rfl
theorem lcF_nil : lcF put ft fe η [] s = .ok [] s := rfl
theorem lcF_cons : lcF put ft fe η (d :: ds) s = lcPut (put d η) fun η1 => (ft η1 s).nx.bnd fun b s1 => if b = true then (fe η1 s1).nx.bnd fun y s2 => (lcF put ft fe η ds s2).bnd fun ys s3 => .ok (y :: ys) s3 else lcF put ft fe η ds s1 := by
  rw [lcF]
  cases put d η <;> rfl
end
end DL
set_option Elab.async false
set_option linter.all false
set_option maxRecDepth 100000
set_option maxHeartbeats 2000000
namespace DL
open PySem PySem.Spec PyProof.Rows L2
def keepE : List Bool → Env → Env
  | true :: bs, x :: η => x :: keepE bs η
  | false :: bs, _ :: η => .no :: keepE bs η
  | [], η => η
  | _ :: _, [] => []
theorem keepE_len : ∀ (bs : List Bool) (η : Env), (keepE bs η).length = η.length
  | true :: bs, x :: η => by simp [keepE, keepE_len bs η]
  | false :: bs, x :: η => by simp [keepE, keepE_len bs η]
  | [], η => by cases η <;> rfl
  | true :: _, [] => rfl
  | false :: _, [] => rfl
theorem keepE_get : ∀ {bs : List Bool} {η : Env} {j : Nat} {x : Sl}, (keepE bs η)[j]? = some x → x ≠ .no → η[j]? = some x
  | true :: bs, y :: η, 0, x, h, _ => by simpa [keepE] using h
  | true :: bs, y :: η, j + 1, x, h, n => by
    rw [List.getElem?_cons_succ]
    exact keepE_get (bs := bs) (by simpa [keepE] using h) n
  | false :: bs, y :: η, 0, x, h, n => by
    simp [keepE] at h
    exact absurd h.symm n
  | false :: bs, y :: η, j + 1, x, h, n => by
    rw [List.getElem?_cons_succ]
    exact keepE_get (bs := bs) (by simpa [keepE] using h) n
  | [], η, j, x, h, _ => by
    have e : keepE [] η = η := by cases η <;> rfl
    rw [e] at h
    exact h
  | true :: _, [], j, x, h, _ => by simp [keepE] at h
  | false :: _, [], j, x, h, _ => by simp [keepE] at h
def F.wip (is : List Bool) : F → F
  | .nx η s => .nx (keepE is η) s
  | .bk η s => .bk (keepE is η) s
  | .ct η s => .ct (keepE is η) s
  | r => r
def wipB (is : List Bool) (f : Env → DS → F) : Env → DS → F := fun η s => (f η s).wip is
def preB (is : List Bool) (f : Env → DS → F) : Env → DS → F := fun η s => f (keepE is η) s
section
variable {M : Mp} {X : Cx} {W : WX} {K : PySem.W.Frag}
theorem Sm.forget {A : Anc} {σ : L2.St} {H G : Hp} {hs : List Addr} {own : Nat → Addr} {η : Env} {s : DS} (I : Sm K M A σ H G hs own η s) (vs : List Bool) : Sm K M A σ H G hs own (keepE vs η) s :=
  ⟨I.sim, I.stp, fun i d e => I.pl i d (keepE_get e (fun z => by cases z)), fun i d e => I.ow i d (keepE_get e (fun z => by cases z)),
    fun i j d d' e1 e2 => I.inj i j d d' (keepE_get e1 (fun z => by cases z)) (keepE_get e2 (fun z => by cases z)), by rw [keepE_len]; exact I.el, fun x d ex e => I.sf x d ex (keepE_get e (fun z => by cases z))⟩
theorem FPost.wip {A : Anc} {E : Ends} {is : List Bool} : ∀ {r : F}, FPost K M A W E (r.wip is) → FPost K M A W E r
  | .nx η s, h => fun σ H G hs own I => h σ H G hs own (I.forget is)
  | .bk η s, h => fun σ H G hs own I => h σ H G hs own (I.forget is)
  | .ct η s, h => fun σ H G hs own I => h σ H G hs own (I.forget is)
  | .rt d s, h => h
  | .ex c p η s, h => h
  | .bad, h => h
variable {st : Stmt} {sts : List Stmt} {g : Env → DS → F}
theorem ds_wip (is : List Bool) (h : DSt M X W st g) : DSt M X W st (wipB is g) := by
  obtain ⟨t, p, h⟩ := h.ex
  exact ⟨t, p, fun A σ H G hs own η s E I hp => h A σ H G hs own η s E I hp.wip⟩
theorem dss_wip (is : List Bool) (h : DSs M X W sts g) : DSs M X W sts (wipB is g) := by
  obtain ⟨t, p, h⟩ := h.ex
  exact ⟨t, p, fun A σ H G hs own η s E I hp => h A σ H G hs own η s E I hp.wip⟩
def forW (bs : List Bool) (fi : Env → DS → R (List D)) (put : D → Env → Option Env) (body : Env → DS → F) : Env → DS → F := fun η s => (fi η s).toF η fun ds s1 => forF put body ds (keepE bs η) s1
theorem ds_forW {tg e : Expr} (bs : List Bool) {body : List Stmt} {fi : Env → DS → R (List D)} {put : D → Env → Option Env} {g : Env → DS → F} {is : List Nat} {pos : Pos} (hp : PassesOwn (model X.prog X.w) X.A X.env X.xe) (hc : X.calm = true) (hi : DI M X W tg e fi) (hg : DG M X tg put is) (hb : DSs M X W body g)
    (hs : ∀ x, foldedSetIterable e X.env x = pure x := by intro _; rfl) : DSt M X W (.For tg e body [] pos) (forW bs fi put g) := by
  obtain ⟨wi, pi, ki⟩ := hi.ex
  obtain ⟨tgt, pg, kg⟩ := hg.ex
  obtain ⟨tb, pb, kb⟩ := hb.ex
  refine ⟨_, ps_for hp hc pi pg pb hs, fun A σ H G hs own η s E I hp => ?_⟩
  refine ki A σ H G hs own η s _ I ((hp.lift I).mono fun ds G1 hs1 s1 H1 S1 J1 h1 J hJ => ?_)
  obtain ⟨A', rfl, rfl, le, I1⟩ := ((I.step S1 J1).forget bs).anew
  refine ⟨fun i m σ H => ∃ G hs own η s, Sm X.K M A' σ H G hs own η s ∧ m = ds.length - i ∧ i ≤ ds.length ∧ FPost X.K M A' W E (forF put g (ds.drop i) η s), ⟨ds.length, _, _, own, keepE bs η, s1, I1, rfl, Nat.zero_le _, le.post h1⟩, ?_⟩
  rintro i m σ2 H2 ⟨G2, hs2, own2, η2, s2, I2, rfl, hil, h2⟩
  obtain ⟨stop, go⟩ := hJ G2 hs2 s2 H2 I2.stp.gg I2.stp.hp I2.sim i
  cases q : ds[i]? with
  | none =>
    have hn : ds.drop i = [] := List.drop_eq_nil_of_le (List.getElem?_eq_none_iff.mp q)
    rw [hn] at h2
    exact .inl ⟨stop q, h2 σ2 H2 G2 hs2 own2 I2⟩
  | some d =>
    have hlt : i < ds.length := (List.getElem?_eq_some_iff.mp q).1
    obtain ⟨go1, go2⟩ := go d q
    have hd : ds.drop i = d :: ds.drop (i + 1) := by
      rw [List.drop_eq_getElem_cons hlt]
      congr 1
      rw [List.getElem?_eq_getElem hlt] at q
      exact Option.some.inj q
    rw [hd, forF] at h2
    refine .inr ⟨go1, fun σ' H' => ∃ G hs own η s, Sm X.K M A' σ' H' G hs own η s ∧ FPost X.K M A' W E (forF put g (ds.drop (i + 1)) η s), fun σ' H' ⟨G, hs, own, η, s, a, b⟩ => ⟨ds.length - (i + 1), by omega, G, hs, own, η, s, a, rfl, hlt, b⟩, fun x H' y => ?_⟩
    obtain ⟨G3, S3, J3, hx⟩ := go2 x H' y
    have I3 := I2.step S3 J3
    split at h2
    · exact h2.elim
    · rename_i η3 e3
      refine kg A' σ2 H' G3 hs2 own2 η2 η3 s2 d x _ I3 hx e3 fun σ4 I4 _ => ?_
      refine kb A' σ4 H' G3 hs2 own2 η3 s2 _ I4 ?_
      cases r : g η3 s2 with
      | nx η5 s5 => rw [r] at h2; exact fun σ H G hs own I => ⟨G, hs, own, η5, s5, I, h2⟩
      | ct η5 s5 => rw [r] at h2; exact fun σ H G hs own I => ⟨G, hs, own, η5, s5, I, h2⟩
      | bk η5 s5 => rw [r] at h2; exact h2
      | rt d s5 => rw [r] at h2; exact h2
      | ex c p η5 s5 => rw [r] at h2; exact h2
      | bad => rw [r] at h2; exact h2
end
section
variable {η : DL.Env} {s : DS} {f : DL.Env → DS → F} {is : List Bool} {c : Nat} {p : List D} {d : D}
theorem wipB_eq : wipB is f η s = (f η s).wip is := rfl
theorem forW_eq {bs : List Bool} {fi : DL.Env → DS → R (List D)} {put : D → DL.Env → Option DL.Env} : forW bs fi put f η s = (fi η s).toF η fun ds s1 => forF put f ds (keepE bs η) s1 := rfl
theorem preB_eq : preB is f η s = f (keepE is η) s := rfl
theorem wip_nx : (F.nx η s).wip is = .nx (keepE is η) s := rfl
theorem wip_bk : (F.bk η s).wip is = .bk (keepE is η) s := rfl
theorem wip_ct : (F.ct η s).wip is = .ct (keepE is η) s := rfl
theorem wip_rt : (F.rt d s).wip is = .rt d s := rfl
theorem wip_ex : (F.ex c p η s).wip is = .ex c p η s := rfl
theorem keep_t {b : Sl} {bs : List Bool} : keepE (true :: bs) (b :: η) = b :: keepE bs η := rfl
theorem keep_f {b : Sl} {bs : List Bool} : keepE (false :: bs) (b :: η) = .no :: keepE bs η := rfl
theorem keep_n : keepE [] η = η := by cases η <;> rfl
theorem wip_bad : F.bad.wip is = .bad := rfl
end
section
variable {γ τ : Type} {η : DL.Env} {s : DS} {f : DL.Env → DS → F} {ft : DL.Env → DS → R Bool} {put : D → DL.Env → Option DL.Env}
/-- one turn, whatever it says -/
def turnF (put : D → DL.Env → Option DL.Env) (f : DL.Env → DS → F) (d : D) (η : DL.Env) (s : DS) : F := putK (put d η) fun η1 => f η1 s
theorem turnF_eq {d : D} : turnF put f d η s = putK (put d η) fun η1 => f η1 s := rfl
theorem forF_cons2 {d : D} {l : List D} : forF put f (d :: l) η s = goK (turnF put f d η s) (forF put f l) := by
  rw [forF_cons]
  unfold turnF
  cases put d η <;> rfl
end
section
variable {η : DL.Env} {s : DS} {d : D} {i : Nat}
def asgO (o : Option DL.Env) (s : DS) : F := match o with
  | some η => .nx η s
  | none => .bad
theorem asgO_s : asgO (some η) s = .nx η s := rfl
theorem asgK_eq {f : D → DL.Env → Option DL.Env} : asgK f η d s = asgO (f d η) s := by
  unfold asgK asgO
  generalize f d η = o
  cases o <;> rfl
theorem asgFK_eq {is : List Nat} {l : List Sl} : asgFK is η l s = asgO (putS is l η) s := by
  unfold asgFK asgO
  generalize putS is l η = o
  cases o <;> rfl
theorem putS_nil : putS [] [] η = some η := rfl
theorem putS_v {is : List Nat} {l : List Sl} : putS (i :: is) (.v d :: l) η = if i < η.length then putS is l (η.set i (.v d)) else none := by rw [putS]
theorem putS_o {is : List Nat} {l : List Sl} : putS (i :: is) (.o d :: l) η = if 0 < i ∧ i < η.length then putS is l (η.set i (.o d)) else none := by rw [putS]
end
end DL
set_option Elab.async false
set_option linter.all false
set_option maxRecDepth 100000
set_option maxHeartbeats 2000000
namespace DL
open PySem PySem.Spec PyProof.Rows L2
inductive Sh where
  | int | bl | str | tup (l : List Sh) | row (s : Sh) | lst (s : Sh)
mutual
def D.has : D → Sh → Bool
  | .int _, .int => true
  | .bl _, .bl => true
  | .str x, .str => PyData.strOk x
  | .tup ds, .tup ss => hasL ds ss
  | .tup ds, .row s => hasA ds s
  | .lst ds, .lst s => hasA ds s
  | _, _ => false
def hasL : List D → List Sh → Bool
  | [], [] => true
  | d :: ds, s :: ss => D.has d s && hasL ds ss
  | _, _ => false
def hasA : List D → Sh → Bool
  | [], _ => true
  | d :: ds, s => D.has d s && hasA ds s
end
mutual
theorem has_alike : ∀ (d e : D) (s : Sh), d.has s = true → e.has s = true → alikeD d e = true
  | .int _, e, s, h, g => by
    cases s <;> simp_all [D.has]
    cases e <;> simp_all [D.has, alikeD, toPD, PySem.W.alike]
  | .bl _, e, s, h, g => by
    cases s <;> simp_all [D.has]
    cases e <;> simp_all [D.has, alikeD, toPD, PySem.W.alike]
  | .str _, e, s, h, g => by
    cases s <;> simp_all [D.has]
    cases e <;> simp_all [D.has, alikeD, toPD, PySem.W.alike]
  | .tup ds, e, s, h, g => by
    cases s with
    | tup ss =>
      cases e with
      | tup es =>
        have := hasL_alike ds es ss (by simpa [D.has] using h) (by simpa [D.has] using g)
        simpa [alikeD, toPD, PySem.W.alike] using this
      | _ => simp_all [D.has]
    | row s =>
      cases e with
      | tup es =>
        have := hasA_alike ds es s (by simpa [D.has] using h) (by simpa [D.has] using g)
        simpa [alikeD, toPD, PySem.W.alike] using this
      | _ => simp_all [D.has]
    | _ => simp_all [D.has]
  | .lst ds, e, s, h, g => by
    cases s with
    | lst s =>
      cases e with
      | lst es =>
        have := hasA_alike ds es s (by simpa [D.has] using h) (by simpa [D.has] using g)
        simpa [alikeD, toPD, PySem.W.alike] using this
      | _ => simp_all [D.has]
    | _ => simp_all [D.has]
  | .non, _, s, h, _ => by cases s <;> simp_all [D.has]
  | .dic _, _, s, h, _ => by cases s <;> simp_all [D.has]
  | .obj _ _, _, s, h, _ => by cases s <;> simp_all [D.has]
  | .han _, _, s, h, _ => by cases s <;> simp_all [D.has]
  | .scr _, _, s, h, _ => by cases s <;> simp_all [D.has]
  | .tup0 _, _, s, h, _ => by cases s <;> simp_all [D.has]
  | .dit _, _, s, h, _ => by cases s <;> simp_all [D.has]
  | .clo _ _, _, s, h, _ => by cases s <;> simp_all [D.has]
theorem hasL_alike : ∀ (d e : List D) (s : List Sh), hasL d s = true → hasL e s = true → PySem.W.alikeAll (toPDL d) (toPDL e) = true
  | [], e, s, _, _ => by cases e <;> simp [toPDL, PySem.W.alikeAll]
  | d :: ds, e, s, h, g => by
    cases s with
    | nil => simp_all [hasL]
    | cons s ss =>
      cases e with
      | nil => simp_all [hasL]
      | cons e es =>
        have h1 : d.has s = true ∧ hasL ds ss = true := by simpa [hasL] using h
        have g1 : e.has s = true ∧ hasL es ss = true := by simpa [hasL] using g
        have a := has_alike d e s h1.1 g1.1
        have b := hasL_alike ds es ss h1.2 g1.2
        unfold alikeD at a
        simp [toPDL, PySem.W.alikeAll, a, b]
theorem hasA_alike : ∀ (d e : List D) (s : Sh), hasA d s = true → hasA e s = true → PySem.W.alikeAll (toPDL d) (toPDL e) = true
  | [], e, s, _, _ => by cases e <;> simp [toPDL, PySem.W.alikeAll]
  | d :: ds, e, s, h, g => by
    cases e with
    | nil => simp [toPDL, PySem.W.alikeAll]
    | cons e es =>
      have h1 : d.has s = true ∧ hasA ds s = true := by simpa [hasA] using h
      have g1 : e.has s = true ∧ hasA es s = true := by simpa [hasA] using g
      have a := has_alike d e s h1.1 g1.1
      have b := hasA_alike ds es s h1.2 g1.2
      unfold alikeD at a
      simp [toPDL, PySem.W.alikeAll, a, b]
end
theorem likeAll_sh {l : List D} (s : Sh) (h : ∀ d ∈ l, okN 9 d = true ∧ d.has s = true) : likeAll l = true := by
  obtain ⟨h1, h2⟩ := okNL_of (n := 9) (l := l) (okNL_iff.mpr fun d hd => (h d hd).1)
  unfold likeAll
  simp only [Bool.and_eq_true, decide_eq_true_eq, List.all_eq_true]
  refine ⟨⟨⟨h1, by omega⟩, fun x hx y hy => has_alike x y s (h x hx).2 (h y hy).2⟩, fun x hx => ?_⟩
  have := (h x hx).2
  cases x <;> simp_all [D.has]
theorem minO_sh {d : D} {l : List D} (s : Sh) (h : ∀ x ∈ d :: l, okN 9 x = true ∧ x.has s = true) : minO [.lst (d :: l)] = some (minF d l) := if_pos (likeAll_sh s h)
theorem ltD_int {a b : Int} : ltD (.int a) (.int b) = decide (a < b) := PySem.W.dataLt_int a b
def Tru (r : F) : Prop := ∃ s', fnK r = .ok (.bl true) s'
section
variable {η η' : DL.Env} {s s' : DS} {f g : DL.Env → DS → F} {n : Nat} {l : List D}
theorem Tru.of (h : Tru (f (padE n (l.map .v)) s)) : ∃ s', fnD n f l s = .ok (.bl true) s' := h
theorem Tru.step (h : f η s = .nx η' s') (k : Tru (g η' s')) : Tru ((f η s).then g) := by rw [h]; exact k
end
def Nxt (m : List Bool) (E : DL.Env) (r : F) : Prop := ∃ s', r.wip m = .nx E s'
section
variable {η η' E : DL.Env} {s s' : DS} {f g : DL.Env → DS → F} {m : List Bool}
theorem Nxt.step (h : f η s = .nx η' s') (k : Nxt m E (g η' s')) : Nxt m E ((f η s).then g) := by rw [h]; exact k
end
end DL
set_option Elab.async false
set_option linter.all false
set_option maxRecDepth 100000
set_option maxHeartbeats 2000000
namespace DL
open PySem PySem.Spec PyProof.Rows L2
abbrev gEnv (X : Cx) (scope : Scope) (C : Addr) (code : Value) : PySem.Env := genEnv scope (cloFrom X.env.cells scope.names []) C code builtinsNs X.env
abbrev GC (X : Cx) (A : Around) (s : Shared) (H : Hp) (scope : Scope) (C : Addr) (code : Value) (fp : List Addr) : Cx :=
  { X with A := A.deeper (gEnv X scope C code), s_0 := s, H_0 := H, env := gEnv X scope C code, outer := X.stack, stack := gEnv X scope C code :: X.stack, ex := fp, fn := fun _ => false, pn := [], xe := fun _ _ => False }
/-- the names of its frame: no cells of its own -/
def genC (N : List Str) (sc scope : Scope) (own : List (Str × Nat)) : Bool := blkC N sc scope own && scope.names.all (fun y => y.2 != .cell) && (scope.isCoroutine == false) && (scope.names.lookup (".0" : Str) == some NameKind.local)
section
variable {X : Cx} {pins : List (Addr × Obj)} {σ : L2.St} {H : Hp} {s : Shared}
theorem gen_start {A : Around} {scope : Scope} {own : List (Str × Nat)} {fp : List Addr} {code : Value} {h1 : Heap} {tk : Nat} {g' : Array GenState} {m0 : Str → Option Value} (I : Inv X pins σ H s) (ok : BlkOk X.N X.env.scope scope own) (hno : ∀ y ∈ scope.names, y.2 ≠ .cell) (hN : X.N.Nodup)
    (hfp : ∀ b ∈ fp, FpOk X pins H b ∧ b < s.heap.objs.size) (hA : A.handled = none) (hF : A.frames = some X.stack) (hns : h1.Ns s.heap.objs.size m0) (kp : ∀ b o, s.heap.get? b = some o → h1.get? b = some o) (hg : AllBare g') :
    Inv (GC X A s H scope s.heap.objs.size code fp) [] (wipe σ (own.map (·.2))) H { s with heap := h1, gens := g', toks := tk } := by
  have hfree : ∀ y ∈ scope.names, y.2 = .free → ∃ c, X.env.cells.lookup y.1 = some c := fun y hy e => by
    rcases ok.free y hy e with k | k
    · exact I.ok.has _ (.inl k)
    · exact I.ok.has _ (.inr k)
  have cm : ∀ {y c}, (cloFrom X.env.cells scope.names []).lookup y = some c → X.env.cells.lookup y = some c ∧ c < s.heap.objs.size := fun {y c} e => by
    rcases cloFrom_mem (PySem.mem_of_lookup e) with hm | ⟨q1, q2⟩
    · cases hm
    · obtain ⟨c', hc⟩ := hfree _ q1 rfl
      have hc' : X.env.cells.lookup y = some c' := hc
      have e2 : c = c' := by
        have q3 : c = (X.env.cells.lookup y).getD 0 := q2
        rw [q3, hc']
        rfl
      obtain ⟨u, z⟩ := I.cell _ _ hc'
      rw [e2]
      exact ⟨hc', z.lt⟩
  have look : ∀ {y}, scope.names.lookup y = some .free → ∃ c, (cloFrom X.env.cells scope.names []).lookup y = some c := fun {y} hl => by
    have hy : (y, NameKind.free) ∈ scope.names := PySem.mem_of_lookup hl
    exact mem_lookup (cloFrom_has (cells := X.env.cells) (acc := []) hy)
  refine ⟨⟨I.ok.mod, ok.kind, I.ok.glob, rfl, Nat.le_refl _, fun y z c e1 e2 => I.ok.inj y z c (cm e1).1 (cm e2).1, fun y hy => ?_, fun y c z _ => (by cases z), fun _ => hA, Around.frames_deeper hF, .inr ⟨rfl, rfl⟩, fun b hb => ⟨Nat.ne_of_lt (hfp b hb).2, fun y c e z => (hfp b hb).1.2.2.2.2.1 y c (cm e).1 z⟩,
    I.bs, Nat.le_trans I.ok.bsz I.sz, fun b o e hb => ?_, fun b hb z => ?_, I.stack, I.stkFree⟩, rfl, hg, Un.kept kp, ⟨_, hns, fun i y v e1 e2 e3 => ?_⟩, fun y c e => ?_, I.hok.fresh (Nat.le_refl _), fun y c e => I.freeC y c (cm e).1, fun p hp => absurd (show p ∈ ([] : List (Addr × Obj)) ++ [] from hp) (by simp), I.hok.kept kp, by rw [wipe_length]; exact I.len⟩
  · rcases hy with k | k
    · have k : scope.names.lookup y = some .cell := k
      exact absurd rfl (hno _ (PySem.mem_of_lookup k))
    · exact look k
  · rcases (hfp b hb).1.2.2.2.1 with z | z
    · exact I.ok.noex b o e z
    · exact absurd (Nat.lt_of_lt_of_le (Heap.lt_size e) (Nat.le_trans I.ok.bsz z)) (Nat.lt_irrefl _)
  · rcases List.mem_cons.mp (I.stkSub b z) with q | q
    · exact (hfp b hb).1.2.1 q
    · exact (hfp b hb).1.2.2.1 q
  · obtain ⟨e2, hne⟩ := wipe_some e2
    have hfr : scope.names.lookup y = some .free := by
      have no : ∀ k, scope.names.lookup y = some k → ¬ (k = .local ∨ k = .cell) := fun k e hh => by
        rcases ok.own _ (PySem.mem_of_lookup e) hh with q | q
        · obtain ⟨p, hp, hpy⟩ := List.mem_map.mp q
          have e3 := ok.ix p hp
          have q3 : p.1 = y := hpy
          rw [q3] at e3
          exact hne (List.mem_map.mpr ⟨p, hp, nodup_ix hN e3 e1⟩)
        · exact q (List.mem_of_getElem? e1)
      have e3 : Vis scope y := e3
      rcases e3 with k | k | k
      · exact absurd (.inl rfl) (no _ k)
      · exact absurd (.inr rfl) (no _ k)
      · exact k
    obtain ⟨m, hn, hl⟩ := I.loc
    have hvis : Vis X.env.scope y := (ok.free _ (PySem.mem_of_lookup hfr) rfl).elim (fun k => .inr (.inl k)) (fun k => .inr (.inr k))
    obtain ⟨w, r, q⟩ := hl i y v e1 e2 hvis
    obtain ⟨c, h2⟩ := look hfr
    refine ⟨w, r, .inr ⟨.inr hfr, c, h2, ?_⟩⟩
    rcases q with ⟨k, _⟩ | ⟨_, c', e', z⟩
    · have k : X.env.scope.names.lookup y = some .local := k
      rcases ok.free _ (PySem.mem_of_lookup hfr) rfl with k' | k' <;> rw [show X.env.scope.names.lookup y = _ from k'] at k <;> cases k
    · rw [(cm h2).1] at e'
      cases e'
      exact z.keeps kp
  · obtain ⟨u, z⟩ := I.cell y c (cm e).1
    exact ⟨u, z.keeps kp⟩
end
def genO (a : Addr) (g : Nat) : HO := .ext fun h => h.IsGen a g
theorem genO_nofix {a : Addr} {g : Nat} : ¬ fixO (genO a g) := by
  rintro (⟨_, z⟩ | ⟨φ, z, c, q, k⟩)
  · cases z
  · cases z
    have hg : ∀ b, (⟨Array.replicate (a + 1) ⟨.type "generator", none, .fields #[.int g 0, .none, .none], #[]⟩, {}⟩ : Heap).get? b = if b < a + 1 then some ⟨.type "generator", none, .fields #[.int g 0, .none, .none], #[]⟩ else none := fun b => by
      unfold Heap.get?
      by_cases h : b < a + 1
      · rw [if_pos h]
        simp [h]
      · rw [if_neg h]
        simp [h]
    obtain ⟨oc, vs, t, h1, h2, h3⟩ := k ⟨Array.replicate (a + 1) ⟨.type "generator", none, .fields #[.int g 0, .none, .none], #[]⟩, {}⟩ ⟨_, .none, .none, by rw [hg, if_pos (Nat.lt_succ_self a)], rfl, rfl, rfl⟩
    rw [hg] at h1
    split at h1
    · cases h1
      cases h2
      simp at h3
    · cases h1
section
variable {X : Cx} {B : Around} {s3 : Shared} {H3 : Hp} {scope : Scope} {C : Addr} {code : Value} {fp : List Addr} {it : Addr} {tn : Nat → Heap → Prop} {J : It} {elt tg iter : Expr} {ifs : List Expr} {pos : Pos} {g : TG} {tt : TT} {te : TE} {vs : List Nat} {σ0 : L2.St}
  {Bd : Nat → Nat → Prop} {W : Nat → Nat → Nat → Hp → Prop} {VV : Nat → Nat → Nat → V → Hp → Prop} {QE : Nat → Hp → Prop}
/-- it waits ahead of item i -/
def Pend (cx : Cx) (σ0 : L2.St) (fp : List Addr) (tn : Nat → Heap → Prop) (Bd : Nat → Nat → Prop) (W : Nat → Nat → Nat → Hp → Prop) (n : Nat) (s : Shared) : Prop :=
  ∃ i m H, Bd n m ∧ L2.Inv cx [] σ0 H s ∧ tn i s.heap ∧ (∀ b ∈ fp, H b = none) ∧ W n i m H
def Yok (cx : Cx) (σ0 : L2.St) (fp : List Addr) (tn : Nat → Heap → Prop) (Bd : Nat → Nat → Prop) (VV : Nat → Nat → Nat → V → Hp → Prop) (n : Nat) (v : Value) (s : Shared) : Prop :=
  ∃ i m H y, Bd (n + 1) m ∧ L2.Inv cx [] σ0 H s ∧ tn (i + 1) s.heap ∧ (∀ b ∈ fp, H b = none) ∧ L2.RelV y v ∧ VV (n + 1) i m y H
def GEnd (cx : Cx) (σ0 : L2.St) (QE : Nat → Hp → Prop) (n : Nat) (s : Shared) : Prop := ∃ H, L2.Inv cx [] σ0 H s ∧ QE n H
abbrev gR (cx : Cx) (σ0 : L2.St) (QE : Nat → Hp → Prop) : GenEnd := fun n _ r s1 => r = .ok .next ∧ GEnd cx σ0 QE n s1
abbrev gY (cx : Cx) (σ0 : L2.St) (fp : List Addr) (tn : Nat → Heap → Prop) (Bd : Nat → Nat → Prop) (W : Nat → Nat → Nat → Hp → Prop) (VV : Nat → Nat → Nat → V → Hp → Prop) : Protocol := fun n _ v s1 kap => Yok cx σ0 fp tn Bd VV n v s1 ∧ ∀ s2, Pend cx σ0 fp tn Bd W n s2 → kap (.send .none) s2
theorem seg_gen (hB1 : ∀ n m, Bd n m → 0 < n) (hB2 : ∀ n m m', Bd n m → m' < m → Bd n m') (hc : X.calm = true) (hco : scope.isCoroutine = false) (T : Turn X.prog X.w X.K tg J fp it tn) (pg : PG (GC X B s3 H3 scope C code fp) tg g) (pt : PTs (GC X B s3 H3 scope C code fp) ifs tt) (pe : PE (GC X B s3 H3 scope C code fp) elt te)
    (hσ : wipe σ0 vs = σ0) (turn : ∀ n i m H, W n i m H → (J.stop i H ∧ QE n H) ∨ (J.go i H ∧ ∀ x H', J.yld i H x H' → g x σ0 H' fun σ2 H2 => wipe σ2 vs = σ0 ∧ tt σ2 H2 fun b H3 => if b = true then te σ2 H3 fun y H4 => VV n i m y H4 else ∃ m', m' < m ∧ W n (i + 1) m' H3)) :
    ∀ (n m : Nat), Bd n m → ∀ (s0 s : Shared) (i : Nat) (H : Hp), L2.Inv (GC X B s3 H3 scope C code fp) [] σ0 H s → tn i s.heap → (∀ b ∈ fp, H b = none) → W n i m H →
      Seg (model X.prog X.w) B (gR (GC X B s3 H3 scope C code fp) σ0 QE) (gY (GC X B s3 H3 scope C code fp) σ0 fp tn Bd W VV) n s0 (.compLoop (.GeneratorExp elt [⟨tg, iter, ifs, 0⟩] scope pos) 0 (.ref it) .none (gEnv X scope C code))
        ((model X.prog X.w).den (.compLoop (.GeneratorExp elt [⟨tg, iter, ifs, 0⟩] scope pos) 0 (.ref it) .none (gEnv X scope C code))) [] s := by
  have stat : ∀ {σ' : L2.St} {H' : Hp} {s' : Shared}, L2.Inv (GC X B s3 H3 scope C code fp) [] σ' H' s' → (∀ b ∈ fp, H' b = none) → ∀ b ∈ fp, FpOk (GC X B s3 H3 scope C code fp) [] H' b := fun {σ' H' s'} I' hn b hb =>
    ⟨hn b hb, (I'.ok.exf b hb).1, I'.ok.exfs b hb, .inl hb, fun x c e => (I'.ok.exf b hb).2 x c e, fun p hp => absurd (show p ∈ ([] : List (Addr × Obj)) ++ [] from hp) (by simp)⟩
  have key : ∀ (n m : Nat), (∀ n' < n, ∀ m', Bd n' m' → ∀ (s0 s : Shared) (i : Nat) (H : Hp), L2.Inv (GC X B s3 H3 scope C code fp) [] σ0 H s → tn i s.heap → (∀ b ∈ fp, H b = none) → W n' i m' H →
      Seg (model X.prog X.w) B (gR (GC X B s3 H3 scope C code fp) σ0 QE) (gY (GC X B s3 H3 scope C code fp) σ0 fp tn Bd W VV) n' s0 (.compLoop (.GeneratorExp elt [⟨tg, iter, ifs, 0⟩] scope pos) 0 (.ref it) .none (gEnv X scope C code))
        ((model X.prog X.w).den (.compLoop (.GeneratorExp elt [⟨tg, iter, ifs, 0⟩] scope pos) 0 (.ref it) .none (gEnv X scope C code))) [] s) → (∀ m' < m, ∀ (s0 s : Shared) (i : Nat) (H : Hp), L2.Inv (GC X B s3 H3 scope C code fp) [] σ0 H s → tn i s.heap → (∀ b ∈ fp, H b = none) → W n i m' H →
      Seg (model X.prog X.w) B (gR (GC X B s3 H3 scope C code fp) σ0 QE) (gY (GC X B s3 H3 scope C code fp) σ0 fp tn Bd W VV) n s0 (.compLoop (.GeneratorExp elt [⟨tg, iter, ifs, 0⟩] scope pos) 0 (.ref it) .none (gEnv X scope C code))
        ((model X.prog X.w).den (.compLoop (.GeneratorExp elt [⟨tg, iter, ifs, 0⟩] scope pos) 0 (.ref it) .none (gEnv X scope C code))) [] s) → Bd n m →
      ∀ (s0 s : Shared) (i : Nat) (H : Hp), L2.Inv (GC X B s3 H3 scope C code fp) [] σ0 H s → tn i s.heap → (∀ b ∈ fp, H b = none) → W n i m H →
      Seg (model X.prog X.w) B (gR (GC X B s3 H3 scope C code fp) σ0 QE) (gY (GC X B s3 H3 scope C code fp) σ0 fp tn Bd W VV) n s0 (.compLoop (.GeneratorExp elt [⟨tg, iter, ifs, 0⟩] scope pos) 0 (.ref it) .none (gEnv X scope C code))
        ((model X.prog X.w).den (.compLoop (.GeneratorExp elt [⟨tg, iter, ifs, 0⟩] scope pos) 0 (.ref it) .none (gEnv X scope C code))) [] s := by
    intro n m ihn ih hmn s0 s i H I st nf w
    show Seg _ B _ _ _ s0 _ ((compTurn (.GeneratorExp elt [⟨tg, iter, ifs, 0⟩] scope pos) 0 (.ref it) .none (gEnv X scope C code)).onRaise (leaving (gEnv X scope C code))) [] s
    rw [compTurn_gen, Sem.onRaise_eq_wrap]
    refine seg_bind_wrap (wpAny_standAt ?_)
    rcases turn n i m H w with ⟨stop, q⟩ | ⟨go, step⟩
    · refine seg_bind_wrap (thnF (T.done (GC X B s3 H3 scope C code fp) rfl rfl rfl hc i [] s _ H (fun _ _ => False) I (stat I nf) st stop) fun r s6 ⟨hr, I6⟩ => ?_)
      subst hr
      exact seg_end (.ok .next) ⟨rfl, H, I6, q⟩
    · refine seg_bind_wrap (thnF (T.item (GC X B s3 H3 scope C code fp) rfl rfl rfl hc i [] s _ H (fun _ _ => False) I (stat I nf) st go) fun r s6 ⟨u, hr, h6⟩ => ?_)
      subst hr
      refine seg_bind_wrap (thnF h6 fun _ s7 ⟨x, H7, I7, r7, y7, st7, n7⟩ => ?_)
      have I7' := I7.pinned (stat I7 n7) (T.obj _ _ st7)
      refine seg_bind_wrap (thnF (pg.run _ s7 _ H7 x u _ I7' r7 (step x H7 y7)) fun _ s8 ⟨σ8, H8, I8, hw8, q8⟩ => ?_)
      refine seg_bind_wrap (thnF (pt.run _ s8 σ8 H8 _ I8 q8) fun b s9 ⟨H9, I9, q9⟩ => ?_)
      have fin : ∀ {s' : Shared} {H' : Hp}, L2.Inv (GC X B s3 H3 scope C code fp) ([] ++ pinsAt fp s7.heap) σ8 H' s' → L2.Inv (GC X B s3 H3 scope C code fp) [] σ0 H' s' ∧ tn (i + 1) s'.heap ∧ (∀ b ∈ fp, H' b = none) := fun {s' H'} I' => by
        have pin' : ∀ b ∈ fp, ∀ o, s7.heap.get? b = some o → s'.heap.get? b = some o ∧ H' b = none := fun b hb o e =>
          let z := I'.pin (b, o) (List.mem_append_right _ (List.mem_append_right _ (mem_pinsAt hb e)))
          ⟨z.1, z.2.1⟩
        have hl : σ0.length = σ8.length := by rw [← hw8, wipe_length]
        refine ⟨(I'.unpinned (pins := [])).weak hl (fun j v e => ?_), T.keep _ _ _ st7 fun b hb o e => (pin' b hb o e).1, fun b hb => ?_⟩
        · rw [← hw8] at e
          exact (wipe_some e).1
        · obtain ⟨o, e, _⟩ := T.obj _ _ st7 b hb
          exact (pin' b hb o e).2
      cases b with
      | false =>
        simp only [Bool.false_eq_true, if_false] at q9 ⊢
        obtain ⟨m', hm, w'⟩ := q9
        obtain ⟨f1, f2, f3⟩ := fin I9
        exact seg_again rfl (ih m' hm s0 s9 (i + 1) H9 f1 f2 f3 w')
      | true =>
        simp only [if_true] at q9 ⊢
        have hy : ∀ v, yieldOut (gEnv X scope C code) v = yieldValue v := fun v => by
          have e : (gEnv X scope C code).scope.isCoroutine = false := hco
          simp only [yieldOut, e, Bool.false_eq_true, if_false]
        simp only [hy]
        rw [Sem.bind_eq_wrap', Sem.bind_eq_wrap', Sem.wrap_wrap, Sem.wrap_wrap]
        refine seg_wrap (thnF (pe.run _ s9 σ8 H9 _ I9 q9) fun z s10 ⟨yv, H10, I10, r10, v10⟩ => ?_)
        obtain ⟨f1, f2, f3⟩ := fin I10
        obtain ⟨n', rfl⟩ : ∃ n', n = n' + 1 := ⟨n - 1, by have := hB1 n m hmn; omega⟩
        refine seg_at (seg_yield rfl rfl rfl ⟨⟨i, m, H10, yv, hmn, f1, f2, f3, r10, v10⟩, fun s2 hp => ?_⟩)
        obtain ⟨i2, m2, H2, hm2, I2, st2, nf2, w2⟩ := hp
        exact seg_again rfl (ihn n' (Nat.lt_succ_self _) m2 hm2 s2 s2 i2 H2 I2 st2 nf2 w2)
  intro n
  induction n using Nat.strongRecOn with
  | _ n ihn =>
    intro m
    induction m using Nat.strongRecOn with
    | _ m ih => exact fun hmn => key n m (fun n' hn' m' hm' => ihn n' hn' m' hm') (fun m' hm' => ih m' hm' (hB2 n m m' hmn hm')) hmn
theorem seg_gen0 (hB1 : ∀ n m, Bd n m → 0 < n) (hB2 : ∀ n m m', Bd n m → m' < m → Bd n m') (hc : X.calm = true) (hco : scope.isCoroutine = false) (T : Turn X.prog X.w X.K tg J fp it tn) (pg : PG (GC X B s3 H3 scope C code fp) tg g) (pt : PTs (GC X B s3 H3 scope C code fp) ifs tt) (pe : PE (GC X B s3 H3 scope C code fp) elt te)
    (hσ : wipe σ0 vs = σ0) (turn : ∀ n i m H, W n i m H → (J.stop i H ∧ QE n H) ∨ (J.go i H ∧ ∀ x H', J.yld i H x H' → g x σ0 H' fun σ2 H2 => wipe σ2 vs = σ0 ∧ tt σ2 H2 fun b H3 => if b = true then te σ2 H3 fun y H4 => VV n i m y H4 else ∃ m', m' < m ∧ W n (i + 1) m' H3))
    (n : Nat) (s : Shared) (hp : Pend (GC X B s3 H3 scope C code fp) σ0 fp tn Bd W n s) :
      Seg (model X.prog X.w) B (gR (GC X B s3 H3 scope C code fp) σ0 QE) (gY (GC X B s3 H3 scope C code fp) σ0 fp tn Bd W VV) n s (.compStart (.GeneratorExp elt [⟨tg, iter, ifs, 0⟩] scope pos) 0 (.ref it) .none (gEnv X scope C code))
        ((model X.prog X.w).den (.compStart (.GeneratorExp elt [⟨tg, iter, ifs, 0⟩] scope pos) 0 (.ref it) .none (gEnv X scope C code))) [] s := by
  obtain ⟨i, m, H, hm, I, st, nf, w⟩ := hp
  have loop := seg_gen (iter := iter) (pos := pos) (it := it) hB1 hB2 hc hco T pg pt pe hσ turn n m hm s s i H I st nf w
  show Seg _ B _ _ _ s _ ((compStart (.GeneratorExp elt [⟨tg, iter, ifs, 0⟩] scope pos) 0 (.ref it) .none (gEnv X scope C code)).onRaise (leaving (gEnv X scope C code))) [] s
  unfold compStart
  rw [Sem.onRaise_eq_wrap]
  show Seg _ B _ _ _ s _ ((ask >>= _).wrap _ _ _ _) [] s
  refine seg_bind_wrap (wpAny_askSetting ?_)
  split
  · exact seg_again rfl loop
  · refine seg_bind_wrap (wpAny_rule ?_)
    show Seg _ B _ _ _ s _ ((standAt iter.pos >>= _).wrap _ _ _ _) [] s
    exact seg_bind_wrap (wpAny_standAt (seg_bind_wrap (T.self _ i s _ _ st (seg_again rfl loop))))
/-- the generator's number is alive: it goes on from any state in which it waits -/
def Live (cx : Cx) (B : Around) (σ0 : L2.St) (fp : List Addr) (tn : Nat → Heap → Prop) (Bd : Nat → Nat → Prop) (W : Nat → Nat → Nat → Hp → Prop) (VV : Nat → Nat → Nat → V → Hp → Prop) (QE : Nat → Hp → Prop) (gn n : Nat) (s : Shared) : Prop :=
  ∃ gs, s.gens[gn]? = some gs ∧ ∀ s2, Pend cx σ0 fp tn Bd W n s2 → gs.Goes (model cx.prog cx.w) B (gR cx σ0 QE) (gY cx σ0 fp tn Bd W VV) n (.send .none) s2
theorem inv_gens {cx : Cx} {pins : List (Addr × Obj)} {σ : L2.St} {H : Hp} {s : Shared} {g' : Array GenState} (I : L2.Inv cx pins σ H s) (hg : AllBare g') : L2.Inv cx pins σ H { s with gens := g' } :=
  I.step (g' := g') (d' := s.drawn) (t' := s.toks) (ch := []) (fun b hb => absurd hb (by simp)) (fun b o _ _ _ e _ => e) (fun b o _ _ _ e _ => ⟨o.slots, e⟩) (fun _ _ _ _ n => n) (fun b o _ e => ⟨o, e⟩) (fun _ _ e => e) (fun _ _ _ e => e) (fun b ps e => ⟨#[], by rw [e]; simp⟩) (fun m hm => hm) I.hok hg
theorem bare_set {s : Shared} {gn : Nat} {x : GenState} (h : AllBare s.gens) (hx : x.bare = true) : AllBare (s.setGen gn x).gens := by
  intro y hy
  simp only [Shared.setGen] at hy
  rcases Array.mem_or_eq_of_mem_setIfInBounds hy with q | q
  · exact h y q
  · rw [q]; exact hx
theorem next_gen {A' : Around} {cx : Cx} {E : Value → Shared → Prop} {a : Addr} {gn n : Nat} {s : Shared} (hB1 : ∀ n m, Bd n m → 0 < n) (hh : A'.handled = none) (hroom : A'.depth < recursionLimit) (hW : ∀ n i m H, W n i m H → H a = some (genO a gn))
    (L : Live cx A'.in1 σ0 fp tn Bd W VV QE gn n s) (P : Pend cx σ0 fp tn Bd W n s) :
    wpAny (model cx.prog cx.w) A' (pyNext (.ref a)) (fun r s1 => (r = none ∧ GEnd cx σ0 QE n s1) ∨ ∃ v n', n = n' + 1 ∧ r = some v ∧ Yok cx σ0 fp tn Bd VV n' v s1 ∧ Live cx A'.in1 σ0 fp tn Bd W VV QE gn n' s1) E s := by
  obtain ⟨gs, hgs, hgo⟩ := L
  have P0 := P
  obtain ⟨i, m, H, hm, I, st, nf, w⟩ := P0
  have hg : s.heap.IsGen a gn := (I.hok a _ (hW n i m H w)).1
  refine GenW.wpAny_gsz (Nat.le_refl s.gens.size) ?_
  refine wpAny_pyNext_genexpQ (P := fun n _ s1 => GEnd cx σ0 QE n s1) (Y := gY cx σ0 fp tn Bd W VV) hh I.nolimit hroom hg hgs (hgo _ ⟨i, m, H, hm, inv_gens I (bare_set I.bare rfl), st, nf, w⟩) (fun v s1 gs' hb hy hsz => ?_) (fun s1 he h' hk _ => ?_)
  · obtain ⟨n', rfl⟩ : ∃ n', n = n' + 1 := ⟨n - 1, by have := hB1 n m hm; omega⟩
    obtain ⟨⟨i2, m2, H2, y, hm2, I2, st2, nf2, r2, v2⟩, kap⟩ := hy
    refine .inr ⟨v, n', rfl, rfl, ⟨i2, m2, H2, y, hm2, inv_gens I2 (bare_set I2.bare hb), st2, nf2, r2, v2⟩, gs', ?_, fun s2 hp => kap s2 hp⟩
    have h0 : gn < s.gens.size := (Array.getElem?_eq_some_iff.mp hgs).1
    rw [GenW.setGen_size] at hsz
    simp only [Shared.setGen]
    rw [Array.getElem?_setIfInBounds_self_of_lt (by omega)]
  · obtain ⟨H2, I2, q2⟩ := he
    exact .inl ⟨rfl, H2, (inv_gens I2 (bare_set I2.bare rfl)).kept hk, q2⟩
end
end DL
set_option Elab.async false
set_option linter.all false
set_option maxRecDepth 100000
set_option maxHeartbeats 2000000
namespace DL
open PySem PySem.Spec PyProof.Rows L2
section
variable {cx : Cx} {A : Around} {σ0 : L2.St} {fp : List Addr} {tn : Nat → Heap → Prop} {Bd : Nat → Nat → Prop} {W : Nat → Nat → Nat → Hp → Prop} {VV : Nat → Nat → Nat → V → Hp → Prop} {QE : Nat → Hp → Prop} {a S : Addr} {gn : Nat} {R : Result → Shared → Prop}
theorem any_loop (hB1 : ∀ n m, Bd n m → 0 < n) (hh : A.handled = none) (hroom : A.depth < recursionLimit) (hW : ∀ n i m H, W n i m H → H a = some (genO a gn)) (hE : ∀ n s1, GEnd cx σ0 QE n s1 → R (.ok (.ret (.bool false))) s1)
    (hV : ∀ n i m y H, Bd (n + 1) m → VV (n + 1) i m y H → ∃ c, y = .bl c ∧ (c = true → ∀ s1, L2.Inv cx [] σ0 H s1 → R (.ok (.ret (.bool true))) s1) ∧ (c = false → ∃ m', Bd n m' ∧ W n (i + 1) m' H)) :
    ∀ (n : Nat) (s : Shared), Live cx A.in1.in1 σ0 fp tn Bd W VV QE gn n s → Pend cx σ0 fp tn Bd W n s → codeAny (model cx.prog cx.w) A (.builtin "any.loop" ⟨[.ref a], []⟩) R s := by
  intro n
  induction n with
  | zero =>
    rintro s _ ⟨i, m, H, hm, _⟩
    exact absurd (hB1 0 m hm) (Nat.lt_irrefl _)
  | succ n ih =>
    intro s L P
    refine codeAny_builtin F.entry_any_loop ?_
    rw [Around.under_plainId F.plain_any_loop _]
    show wpAny _ A.in1 (pyNext (.ref a) >>= _) _ _ s
    refine wpAny_bind (wpAny_mono (next_gen (A' := A.in1) (E := fun _ _ => False) hB1 hh hroom hW L P) (fun r s1 h => ?_) fun _ _ z => z.elim)
    rcases h with ⟨rfl, h⟩ | ⟨v, n', hn, rfl, ⟨i, m, H, y, hm, I, st, nf, rv, vv⟩, L'⟩
    · exact wpAny_bind (wpAny_rule (wpAny_pure (hE _ s1 h)))
    · cases hn
      obtain ⟨c, rfl, h1, h2⟩ := hV _ i m y H hm vv
      have e : v = .bool c := rv
      subst e
      refine wpAny_bind (wpAny_holding (wpAny_truthy_bool ?_))
      refine wpAny_bind (wpAny_letGo ?_)
      cases c with
      | false =>
        simp only [Bool.false_eq_true, if_false]
        obtain ⟨m', hm', w'⟩ := h2 rfl
        exact wpAny_pure ⟨plainId_quiet F.plain_any_loop _, ih s1 L' ⟨i + 1, m', H, hm', I, st, nf, w'⟩⟩
      | true =>
        simp only [if_true]
        exact wpAny_bind (wpAny_rule (wpAny_pure (h1 rfl s1 I)))
/-- the running sum's list -/
theorem acc_obj {pins : List (Addr × Obj)} {H : Hp} {s : Shared} {acc : Int} (I : L2.Inv cx pins σ0 H s) (h : H S = some (.lst [.int acc])) : ∃ t c, s.heap.get? S = some { cls := .type "list", dict := none, data := .seq #[.int acc t] c, slots := #[] } := by
  obtain ⟨_, its, n, hv, ho⟩ := I.hok S _ h
  cases hv with
  | cons r rs =>
    cases rs
    obtain ⟨t, rfl⟩ := r
    exact ⟨t, n, ho⟩
theorem acc_set {pins : List (Addr × Obj)} {H : Hp} {s : Shared} {acc z : Int} {h' : Heap} {tk c : Nat} {t : Tok} (I : L2.Inv cx pins σ0 H s) (h : H S = some (.lst [.int acc])) (k : ∀ b u, b ≠ S → s.heap.get? b = some u → h'.get? b = some u)
    (ho : h'.get? S = some { cls := .type "list", dict := none, data := .seq #[.int z t] c, slots := #[] }) : L2.Inv cx pins σ0 (upd H S (.lst [.int z])) { s with heap := h', toks := tk } :=
  I.write (x := S) (e := S) (by rw [h]; trivial) (.inl rfl) k ⟨_, ho⟩ ⟨by show 1 ≤ sizeLine; decide, [.int z t], c, .cons ⟨t, rfl⟩ .nil, ho⟩
theorem sum_loop (accOf : Nat → Int) (hB1 : ∀ n m, Bd n m → 0 < n) (hh : A.handled = none) (hroom : A.depth < recursionLimit) (hkeep : ∀ i (h h' : Heap), tn i h → (∀ b ∈ fp, ∀ o, h.get? b = some o → h'.get? b = some o) → tn i h') (hW : ∀ n i m H, W n i m H → H a = some (genO a gn) ∧ H S = some (.lst [.int (accOf n)]))
    (hE : ∀ n H s1, L2.Inv cx [] σ0 H s1 → QE n H → ∀ t, R (.ok (.ret (.int (accOf n) t))) s1)
    (hV : ∀ n i m y H, Bd (n + 1) m → VV (n + 1) i m y H → ∃ z, y = .int z ∧ H S = some (.lst [.int (accOf (n + 1))]) ∧ accOf n = accOf (n + 1) + z ∧ ∃ m', Bd n m' ∧ W n (i + 1) m' (upd H S (.lst [.int (accOf n)]))) :
    ∀ (n : Nat) (s : Shared) (st : Int), (st = 0 ∨ st = 2) → Live cx A.in1.in1 σ0 fp tn Bd W VV QE gn n s → Pend cx σ0 fp tn Bd W n s → codeAny (model cx.prog cx.w) A (.builtin "sum.loop" ⟨[.ref a, .ref S, rawInt st, rawInt 0], []⟩) R s := by
  intro n
  induction n with
  | zero =>
    rintro s st _ _ ⟨i, m, H, hm, _⟩
    exact absurd (hB1 0 m hm) (Nat.lt_irrefl _)
  | succ n ih =>
    intro s st hst L P
    obtain ⟨i0, m0, H0, _, I0, st0, nf0, w0⟩ := id P
    obtain ⟨t0, c0, hS0⟩ := acc_obj I0 (hW _ i0 m0 H0 w0).2
    refine codeAny_builtin F.entry_sum_loop ?_
    rw [Around.under_plainId F.plain_sum_loop _]
    show wpAny _ A.in1 (seqItems? (.ref S) >>= _) _ _ s
    refine wpAny_bind (wpAny_seqItems hS0 rfl ?_)
    show wpAny _ A.in1 (tryCatch (pyNext (.ref a)) _ >>= _) _ _ s
    refine wpAny_bind (wpAny_tryCatch (wpAny_mono (next_gen (A' := A.in1) (E := fun _ _ => False) hB1 hh hroom (fun n i m H w => (hW n i m H w).1) L P) (fun r s1 h => ?_) fun _ _ z => z.elim))
    rcases h with ⟨rfl, h⟩ | ⟨v, n', hn, rfl, ⟨i, m, H, y, hm, I, st1, nf, rv, vv⟩, L'⟩
    · obtain ⟨H1, I1, q1⟩ := h
      exact wpAny_pure (hE _ H1 s1 I1 q1 t0)
    · cases hn
      obtain ⟨z, rfl, e1, e2, m', hm', w'⟩ := hV _ i m y H hm vv
      obtain ⟨t, rfl⟩ := rv
      obtain ⟨t1, c1, hS1⟩ := acc_obj I e1
      have nS : ∀ b ∈ fp, S ≠ b := fun b hb e => by
        have := nf b hb
        rw [← e, e1] at this
        cases this
      -- behind the list's change
      have fin : ∀ {h' : Heap} {tk c : Nat} {t2 : Tok}, (∀ b u, b ≠ S → s1.heap.get? b = some u → h'.get? b = some u) → h'.get? S = some { cls := .type "list", dict := none, data := .seq #[.int (accOf (n + 1) + z) t2] c, slots := #[] } →
          Live cx A.in1.in1 σ0 fp tn Bd W VV QE gn n { s1 with heap := h', toks := tk } ∧ Pend cx σ0 fp tn Bd W n { s1 with heap := h', toks := tk } := fun {h' tk c t2} k ho => by
        rw [← e2] at ho
        refine ⟨L', i + 1, m', _, hm', acc_set I e1 k ho, hkeep _ _ _ st1 fun b hb o e => k b o (fun q => nS b hb q.symm) e, fun b hb => ?_, w'⟩
        rw [upd_ne (fun q => nS b hb q.symm)]
        exact nf b hb
      rcases hst with rfl | rfl
      · show wpAny _ A.in1 (if (_ : Bool) = true then (mkInt (accOf (n + 1) + z) >>= _) else _) _ _ _
        split
        · refine wpAny_bind (wpAny_mkInt ?_)
          show wpAny _ A.in1 (updateSeq S (fun _ => #[.int (accOf (n + 1) + z) s1.toks]) >>= _) _ _ _
          refine wpAny_bind ?_
          obtain ⟨f1, f2⟩ := fin (tk := s1.toks + 1) (fun b u hb e => (Heap.get?_update_other _ (Obj.mapSeq fun _ => #[Value.int (accOf (n + 1) + z) s1.toks]) (Ne.symm hb)).trans e) (Heap.get?_update_self (Obj.mapSeq fun _ => #[Value.int (accOf (n + 1) + z) s1.toks]) hS1 rfl)
          exact wpAny_updateSeq hS1 rfl (wpAny_pure ⟨plainId_quiet F.plain_sum_loop _, ih _ 0 (.inl rfl) f1 f2⟩)
        · refine wpAny_bind (wpAny_rule ?_)
          refine wpAny_bind (wpAny_attempt (wpAny_holding (wpAny_add_int ?_)))
          show wpAny _ A.in1 (updateSeq S (fun _ => #[.int (accOf (n + 1) + z) s1.toks]) >>= _) _ _ _
          refine wpAny_bind (wpAny_updateSeq hS1 rfl ?_)
          have hS2 := Heap.get?_update_self (Obj.mapSeq fun _ => #[Value.int (accOf (n + 1) + z) s1.toks]) hS1 rfl
          refine wpAny_bind (wpAny_letGo ?_)
          obtain ⟨f1, f2⟩ := fin (tk := s1.toks + 1) (fun b u hb e => (Heap.get?_update_other _ (Obj.mapSeq fun _ => #[Value.int (accOf (n + 1) + z) s1.toks]) (Ne.symm hb)).trans ((Heap.get?_update_other _ (Obj.mapSeq fun _ => #[Value.int (accOf (n + 1) + z) s1.toks]) (Ne.symm hb)).trans e)) (Heap.get?_update_self (Obj.mapSeq fun _ => #[Value.int (accOf (n + 1) + z) s1.toks]) hS2 rfl)
          exact wpAny_bind (wpAny_updateSeq hS2 rfl (wpAny_pure ⟨plainId_quiet F.plain_sum_loop _, ih _ 2 (.inr rfl) f1 f2⟩))
      · show wpAny _ A.in1 ((holding [Value.int z t] (binaryOp .Add (.int (accOf (n + 1)) t0) (.int z t))).attempt >>= _) _ _ _
        refine wpAny_bind (wpAny_attempt (wpAny_holding (wpAny_add_int ?_)))
        show wpAny _ A.in1 (updateSeq S (fun _ => #[.int (accOf (n + 1) + z) s1.toks]) >>= _) _ _ _
        refine wpAny_bind (wpAny_updateSeq hS1 rfl ?_)
        have hS2 := Heap.get?_update_self (Obj.mapSeq fun _ => #[Value.int (accOf (n + 1) + z) s1.toks]) hS1 rfl
        refine wpAny_bind (wpAny_letGo ?_)
        obtain ⟨f1, f2⟩ := fin (tk := s1.toks + 1) (fun b u hb e => (Heap.get?_update_other _ (Obj.mapSeq fun _ => #[Value.int (accOf (n + 1) + z) s1.toks]) (Ne.symm hb)).trans ((Heap.get?_update_other _ (Obj.mapSeq fun _ => #[Value.int (accOf (n + 1) + z) s1.toks]) (Ne.symm hb)).trans e)) (Heap.get?_update_self (Obj.mapSeq fun _ => #[Value.int (accOf (n + 1) + z) s1.toks]) hS2 rfl)
        exact wpAny_bind (wpAny_updateSeq hS2 rfl (wpAny_pure ⟨plainId_quiet F.plain_sum_loop _, ih _ 2 (.inr rfl) f1 f2⟩))
end
end DL
set_option Elab.async false
set_option linter.all false
set_option maxRecDepth 100000
set_option maxHeartbeats 2000000
namespace DL
open PySem PySem.Spec PyProof.Rows L2
/-- a generator just made -/
def GRdy (X : Cx) (pins : List (Addr × Obj)) (σ : L2.St) (vs : List Nat) (tg elt iter : Expr) (ifs : List Expr) (scope : Scope) (pos : Pos) (J : It) (H2 : Hp) (a : Addr) (gn : Nat) (s5 : Shared) : Prop :=
  ∃ s4 C code fp it tn, Turn X.prog X.w X.K tg J fp it tn ∧ L2.Inv (GC X X.A.in1.in1 s4 H2 scope C code fp) [] (wipe σ vs) (upd H2 a (genO a gn)) s5 ∧ tn 0 s5.heap ∧ (∀ b ∈ fp, upd H2 a (genO a gn) b = none) ∧
    s5.gens[gn]? = some (.fresh (.compStart (.GeneratorExp elt [⟨tg, iter, ifs, 0⟩] scope pos) 0 (.ref it) .none (gEnv X scope C code))) ∧ ∀ H' s', L2.Inv (GC X X.A.in1.in1 s4 H2 scope C code fp) [] (wipe σ vs) H' s' → L2.Inv X pins σ H' s'
theorem genO_ok {P : Program} {w : World} {H : Hp} {h : Heap} {a : Addr} {g : Nat} (hg : h.IsGen a g) : ObjOk P w H h a (genO a g) := by
  refine ⟨hg, ?_, fun h1 h2 q k => ?_⟩
  · obtain ⟨o, _, _, e, _⟩ := hg
    exact ⟨o, e⟩
  · obtain ⟨o, nm, qn, e, r⟩ := q
    exact ⟨o, nm, qn, k o e, r⟩
section
variable {X : Cx} {pins : List (Addr × Obj)} {σ : L2.St} {H : Hp} {s : Shared}
theorem gen_make {T : Tbs} {c P P0 : Addr} {k : Nat} {tg elt iter : Expr} {ifs : List Expr} {scope : Scope} {own : List (Str × Nat)} {pos : Pos} {wi : TI} {Q' : Value → Shared → Prop} (hN : X.N.Nodup) (hr : Room k X.A) (I : L2.Inv X pins σ H s) (bm : X.base.BuiltinsAt X.mg P0) (hcode : X.env.code = .ref c)
    (hmT : HasT T P (X.env.qual ++ "<genexpr>") pos) (hi : PI X tg iter wi) (ok : BlkOk X.N X.env.scope scope own) (hno : ∀ y ∈ scope.names, y.2 ≠ .cell) (hco : scope.isCoroutine = false) (hdot : scope.names.lookup (".0" : Str) = some NameKind.local)
    (hs : ∀ v, genFold iter X.env v = pure v)
    {R : It → Hp → Prop} (h : wi σ H R) (hR : ∀ J H1, R J H1 → TabsX T H1 ∧ (∀ s2, L2.Inv X pins σ H1 s2 → PySem.W.CodeHd s2.heap c P) ∧ ∀ H2, LamX.ExtN H1 H2 → TabsX T H2 → ∀ a gn s5, H2 a = none → GRdy X pins σ (own.map (·.2)) tg elt iter ifs scope pos J H2 a gn s5 → Q' (.ref a) s5) :
    wpAny (model X.prog X.w) X.A (eval (.GeneratorExp elt [⟨tg, iter, ifs, 0⟩] scope pos) X.env) Q' X.xe s := by
  have hfree : ∀ y ∈ scope.names, y.2 = .free → ∃ c, X.env.cells.lookup y.1 = some c := fun y hy e => by
    rcases ok.free y hy e with k | k
    · exact I.ok.has _ (.inl k)
    · exact I.ok.has _ (.inr k)
  refine wpAny_GeneratorExp_make hco (closure_ok hfree) hno hdot ok.kind (by have := hr.dp; omega) ?_ hs
  refine thn (hi.run pins s σ H _ I h) fun xv s1 h1 => thn h1 fun itv s2 h2 => ?_
  obtain ⟨it, fp, tn, J, H2, e, I2, T2, st2, f2, q0⟩ := h2
  obtain ⟨hT, hcd, q⟩ := hR J H2 q0
  subst e
  refine ⟨I2.nolimit, ?_⟩
  obtain ⟨ps, hP, ht, ha⟩ := tabN_at hT hmT
  have hP' : s2.heap.get? P = some { cls := .none, data := .fields ps } := I2.hok P _ hP
  -- behind the code object
  have cont : ∀ (code : Value) (s3 : Shared) (H3 : Hp), L2.Inv X pins σ H3 s3 → LamX.ExtN H2 H3 → TabsX T H3 → tn 0 s3.heap → (∀ b ∈ fp, FpOk X pins H3 b ∧ b < s3.heap.objs.size) →
      wpAny (model X.prog X.w) X.A (builtinsFor X.env.globals X.env.builtins) (fun bi s4 => ∀ h', h'.Ns s4.heap.objs.size (fun y => if y = ".0" then some (.ref it) else none) → Heap.SameBut s4.heap.objs.size (s4.heap.push { cls := .type "frame", data := .dict #[] }) h' →
        Q' (.ref h'.objs.size) { s4 with gens := s4.gens.push (.fresh (.compStart (.GeneratorExp elt [⟨tg, iter, ifs, 0⟩] scope pos) 0 (.ref it) .none (genEnv scope (cloFrom X.env.cells scope.names []) s4.heap.objs.size code bi X.env))), toks := s4.toks + 1 + 1 + 1, heap := h'.push { cls := .type "generator", data := .fields #[.int s4.gens.size 0, .str "<genexpr>" (s4.toks + 1), .str (X.env.qual ++ "<genexpr>") (s4.toks + 1 + 1)] } }) X.xe s3 := by
    intro code s3 H3 I3 eN T3 st3 f3
    obtain ⟨bm, ob, e1, e2, e3, e4, e5, e6, e7, e8⟩ := bm
    refine wpAny_builtinsFor (m := X.mg) (by rw [I3.ok.glob]; exact I3.mod.glob.keeps I3.bk) e1 e2 (I3.bk _ _ e5) e6 e7 e8 ?_
    intro h' hns hsb
    have kp : ∀ b o, s3.heap.get? b = some o → h'.get? b = some o := fun b o e => hsb.extBut b o (Nat.ne_of_lt (Heap.lt_size e)) (Heap.get?_push_of_some _ e)
    have I4 := gen_start (A := X.A.in1.in1) (code := code) (tk := s3.toks + 1 + 1 + 1) (g' := s3.gens) I3 ok hno hN f3 hr.hd I3.ok.frames hns kp I3.bare
    have hsz : s3.heap.objs.size ≤ h'.objs.size := Nat.le_of_lt hns.lt
    have na : H3 h'.objs.size = none := I3.hok.fresh hsz
    have hgen : (h'.push { cls := .type "generator", data := .fields #[.int s3.gens.size 0, .str "<genexpr>" (s3.toks + 1), .str (X.env.qual ++ "<genexpr>") (s3.toks + 1 + 1)] }).IsGen h'.objs.size s3.gens.size := ⟨_, _, _, Heap.get?_push_size _ rfl, rfl, rfl, rfl⟩
    have I5 := I4.laid (a := h'.objs.size) (t' := s3.toks + 1 + 1 + 1) (h' := h'.push { cls := .type "generator", data := .fields #[.int s3.gens.size 0, .str "<genexpr>" (s3.toks + 1), .str (X.env.qual ++ "<genexpr>") (s3.toks + 1 + 1)] }) (fun b u e => Heap.get?_push_of_some _ e) (Nat.le_refl _) (genO_ok hgen)
    have I6 := inv_gens (g' := s3.gens.push (.fresh (.compStart (.GeneratorExp elt [⟨tg, iter, ifs, 0⟩] scope pos) 0 (.ref it) .none (gEnv X scope s3.heap.objs.size code)))) I5 (I3.bare.push rfl)
    refine q H3 eN T3 h'.objs.size s3.gens.size _ na ⟨s3, s3.heap.objs.size, code, fp, it, tn, T2, I6, T2.keep _ _ _ st3 fun b _ o e => Heap.get?_push_of_some _ (kp b o e), fun b hb => ?_, Array.getElem?_push_size .., fun H' s' I' => ?_⟩
    · rw [upd_ne (fun z => by have := (f3 b hb).2; rw [z] at this; exact absurd (Nat.lt_of_lt_of_le this hsz) (Nat.lt_irrefl _))]
      exact (f3 b hb).1.1
    · exact I3.call' (ch := fp) I'.os I'.base I'.hok I'.bare fun b hb => ⟨(f3 b hb).1.2.2.2.1, (f3 b hb).1.2.1, (f3 b hb).1.2.2.2.2.1, (f3 b hb).1.2.2.2.2.2⟩
  have szf : ∀ b ∈ fp, b < s2.heap.objs.size := fun b hb => by
    obtain ⟨o, e, _⟩ := T2.obj _ _ st2 b hb
    exact Heap.lt_size e
  cases hc : codeAmong pos ps.toList with
  | some cv =>
    refine wpAny_genexprCode_hit hcode ((hcd s2 I2).code hP' ht) hc ?_
    exact cont cv s2 H2 I2 (LamX.ExtN.refl _) hT st2 fun b hb => ⟨f2 b hb, szf b hb⟩
  | none =>
    refine wpAny_genexprCodeX hcode ((hcd s2 I2).code hP' ht) ((hcd s2 I2).tab hP') hc fun c' h' tk hx hge hlt hco' hrec htb _ => ?_
    obtain ⟨c2, oc, vs2, t, e2, hoc, hd, hv⟩ := hrec
    cases e2
    have nC : H2 c' = none := I2.hok.fresh hge
    have hsz : s2.heap.objs.size ≤ h'.objs.size := Nat.le_trans hge (Nat.le_of_lt hlt)
    have I3 := LamX.inv_table (t' := tk) (more := #[rawInt pos.line, rawInt pos.col, .ref c']) (h' := h') I2 hP (fun b o hb e => hx b o hb e) htb.2 hge ⟨oc, vs2, t, hoc, hd, hv⟩
    obtain ⟨hE, hE2⟩ := tabN_grow hT hmT hP nC
    refine cont (.ref c') _ _ I3 hE hE2 (T2.keep _ _ _ st2 fun b hb o e => hx b o (fun z => ?_) e) fun b hb => ⟨⟨?_, (f2 b hb).2⟩, Nat.lt_of_lt_of_le (szf b hb) hsz⟩
    · have := (f2 b hb).1
      rw [z, hP] at this
      cases this
    · have hb0 := (f2 b hb).1
      rw [upd_ne (fun z => ?_), upd_ne (fun z => ?_)]
      · exact hb0
      · rw [z, hP] at hb0; cases hb0
      · have := szf b hb
        rw [z] at this
        exact absurd (Nat.lt_of_lt_of_le this hge) (Nat.lt_irrefl _)
end
section
variable {X : Cx} {T : Tbs} {c P : Addr} {k : Nat} {tg elt iter : Expr} {ifs : List Expr} {scope : Scope} {own : List (Str × Nat)} {gpos p pos : Pos} {wi : TI} {g : TG} {tt : TT} {te : TE}
def tGAny (T : Tbs) (stop : Bool) (wi : TI) (g : TG) (tt : TT) (te : TE) (vs : List Nat) : TE := fun σ H Q => wi σ H fun J H1 => TabsX T H1 ∧ ∀ H2, LamX.ExtN H1 H2 → TabsX T H2 → ∀ a gn, H2 a = none →
  ∃ W : Nat → Nat → Hp → Prop, (∃ m, W 0 m (upd H2 a (genO a gn))) ∧ ∀ i m H, W i m H → H a = some (genO a gn) ∧ ((J.stop i H ∧ Q (.bl (!stop)) H) ∨ (J.go i H ∧ ∀ x H', J.yld i H x H' → g x (wipe σ vs) H' fun σ2 H3 => wipe σ2 vs = wipe σ vs ∧ tt σ2 H3 fun b H4 =>
    if b = true then te σ2 H4 fun y H5 => ∃ d, y = .bl d ∧ (d = stop → Q (.bl stop) H5) ∧ (d = (!stop) → ∃ m', m' < m ∧ W (i + 1) m' H5) else ∃ m', m' < m ∧ W (i + 1) m' H4))
def tGSum (T : Tbs) (CD : Hp → Prop) (wi : TI) (g : TG) (tt : TT) (te : TE) (vs : List Nat) : TE := fun σ H Q => wi σ H fun J H1 => TabsX T H1 ∧ CD H1 ∧ ∀ H2, LamX.ExtN H1 H2 → TabsX T H2 → ∀ a gn, H2 a = none → ∀ S, upd H2 a (genO a gn) S = none →
  ∃ (zs : List Int) (W : Nat → Nat → Nat → Hp → Prop), (∃ m, W (zs.length + 1) 0 m (upd (upd H2 a (genO a gn)) S (.lst [.int 0]))) ∧ ∀ n i m H, W n i m H → H a = some (genO a gn) ∧ H S = some (.lst [.int (zs.take (zs.length + 1 - n)).sum]) ∧ ((J.stop i H ∧ n = 1 ∧ Q (.int zs.sum) H) ∨ (J.go i H ∧ ∀ x H', J.yld i H x H' → g x (wipe σ vs) H' fun σ2 H3 => wipe σ2 vs = wipe σ vs ∧ tt σ2 H3 fun b H4 =>
    if b = true then te σ2 H4 fun y H5 => ∃ z, y = .int z ∧ zs[zs.length + 1 - n]? = some z ∧ H5 S = some (.lst [.int (zs.take (zs.length + 1 - n)).sum]) ∧ ∃ m', W (n - 1) (i + 1) m' (upd H5 S (.lst [.int ((zs.take (zs.length + 1 - n)).sum + z)])) else ∃ m', m' < m ∧ W n (i + 1) m' H4))
theorem wipe_wipe (σ : L2.St) (vs : List Nat) : wipe (wipe σ vs) vs = wipe σ vs := wipe_eq (is := []) ⟨rfl, fun _ _ => rfl⟩ (fun _ h => absurd h (by simp))
theorem pe_gany (hc : X.calm = true) (hN : X.N.Nodup) (hr : Room k X.A) (hg : Gl X "any") (hm : X.mg "any" = none) (TB : LamX.TabB X.base X.mg c P) (hcode : X.env.code = .ref c) (hmT : HasT T P (X.env.qual ++ "<genexpr>") gpos)
    (hi : PI X tg iter wi) (ok : BlkOk X.N X.env.scope scope own) (hno : ∀ y ∈ scope.names, y.2 ≠ .cell) (hco : scope.isCoroutine = false) (hdot : scope.names.lookup (".0" : Str) = some NameKind.local)
    (pg : ∀ s H C code fp, PG (GC X X.A.in1.in1 s H scope C code fp) tg g) (pt : ∀ s H C code fp, PTs (GC X X.A.in1.in1 s H scope C code fp) ifs tt) (pe : ∀ s H C code fp, PE (GC X X.A.in1.in1 s H scope C code fp) elt te)
    (hs : ∀ v, genFold iter X.env v = pure v) (he : starEach [.GeneratorExp elt [⟨tg, iter, ifs, 0⟩] scope gpos] X.env = (false, eval (.GeneratorExp elt [⟨tg, iter, ifs, 0⟩] scope gpos) X.env) :: starEach [] X.env := by rfl) (hb : bootBuiltins "any" = some (.builtin "any") := by rfl) :
    PE X (.Call (.Name "any" p) [.GeneratorExp elt [⟨tg, iter, ifs, 0⟩] scope gpos] [] pos) (tGAny T true wi g tt te (own.map (·.2))) := by
  refine ⟨fun pins s σ H Q I h => ?_⟩
  refine wpAny_Call_Name_kw (ld_blt I hg hm hb ?_)
  refine PyProof.Rows.callWith_builtin1 ?_ he (by rfl)
  rw [he]
  show wpAny _ _ (spliced ((false, eval (.GeneratorExp elt [⟨tg, iter, ifs, 0⟩] scope gpos) X.env) :: backTo pos (starEach [] X.env))) _ _ s
  have hd : X.A.in1.handled = none := hr.hd
  have hroom : X.A.depth < recursionLimit := by have := hr.dp; omega
  refine Calls.spliced_cons (gen_make (T := T) (wi := wi) hN hr I TB.bm hcode hmT hi ok hno hco hdot hs h fun J H1 q => ⟨q.1, fun s2 I2 => TB.code.keeps I2.bk, fun H2 eN T2 a gn s5 na rdy => Calls.spliced_nil ?_⟩)
  obtain ⟨s4, C, code, fp, it, tn, Tn, I5, st5, n5, hgs, back⟩ := rdy
  have hgen : s5.heap.IsGen a gn := (I5.hok a _ upd_same).1
  refine call_function_tree F.kind_any F.plain_any F.entry_any (F.args_any1 _) ?_
  unfold Builtin.«any»
  obtain ⟨W, ⟨m0, w0⟩, step⟩ := q.2 H2 eN T2 a gn na
  refine wpAny_bind (m := oneArg "any" _) (wpAny_pure ?_)
  refine wpAny_bind (wpAny_pyIter_gen hgen ?_)
  refine wpAny_pure ⟨plainId_quiet F.plain_any_loop _, ?_⟩
  have hP : Pend (GC X X.A.in1.in1 s4 H2 scope C code fp) (wipe σ (own.map (·.2))) fp tn (fun n m => m < n) (fun _ i m H => W i m H) (m0 + 1) s5 := ⟨0, m0, _, Nat.lt_succ_self _, I5, st5, n5, w0⟩
  refine any_loop (cx := GC X X.A.in1.in1 s4 H2 scope C code fp) (A := X.A) (σ0 := wipe σ (own.map (·.2))) (fp := fp) (tn := tn) (Bd := fun n m => m < n) (W := fun _ i m H => W i m H)
    (VV := fun _ i m y H5 => ∃ d, y = .bl d ∧ (d = true → Q (.bl true) H5) ∧ (d = (!true) → ∃ m', m' < m ∧ W (i + 1) m' H5)) (QE := fun _ H => Q (.bl (!true)) H) (a := a) (gn := gn) (fun n m h => by omega) hd hroom (fun n i m H w => (step i m H w).1) (fun n s1 ⟨H6, I6, q6⟩ => ⟨.bl _, H6, back H6 s1 I6, rfl, q6⟩)
    (fun n i m y H hmn ⟨d, e, h1, h2⟩ => ⟨d, e, fun hd s1 I6 => ⟨.bl _, H, back H s1 I6, rfl, h1 hd⟩, fun hd => by
      obtain ⟨m', hm', w'⟩ := h2 hd
      exact ⟨m', by omega, w'⟩⟩) (m0 + 1) s5 ⟨_, hgs, fun s6 hp => ⟨rfl, seg_gen0 (fun n m h => by omega) (fun n m m' h h' => by omega) hc hco Tn (pg s4 H2 C code fp) (pt s4 H2 C code fp) (pe s4 H2 C code fp) (wipe_wipe σ _) (fun n i m H w => (step i m H w).2) (m0 + 1) s6 hp⟩⟩ hP
theorem pe_gsum {P0 : Addr} (CD : Hp → Prop) (hCD : ∀ pins σ H s, L2.Inv X pins σ H s → CD H → PySem.W.CodeHd s.heap c P) (hc : X.calm = true) (hN : X.N.Nodup) (hr : Room k X.A) (hg : Gl X "sum") (hm : X.mg "sum" = none) (bm : X.base.BuiltinsAt X.mg P0) (hcode : X.env.code = .ref c) (hmT : HasT T P (X.env.qual ++ "<genexpr>") gpos)
    (hi : PI X tg iter wi) (ok : BlkOk X.N X.env.scope scope own) (hno : ∀ y ∈ scope.names, y.2 ≠ .cell) (hco : scope.isCoroutine = false) (hdot : scope.names.lookup (".0" : Str) = some NameKind.local)
    (pg : ∀ s H C code fp, PG (GC X X.A.in1.in1 s H scope C code fp) tg g) (pt : ∀ s H C code fp, PTs (GC X X.A.in1.in1 s H scope C code fp) ifs tt) (pe : ∀ s H C code fp, PE (GC X X.A.in1.in1 s H scope C code fp) elt te)
    (hs : ∀ v, genFold iter X.env v = pure v) (he : starEach [.GeneratorExp elt [⟨tg, iter, ifs, 0⟩] scope gpos] X.env = (false, eval (.GeneratorExp elt [⟨tg, iter, ifs, 0⟩] scope gpos) X.env) :: starEach [] X.env := by rfl) (hb : bootBuiltins "sum" = some (.builtin "sum") := by rfl) :
    PE X (.Call (.Name "sum" p) [.GeneratorExp elt [⟨tg, iter, ifs, 0⟩] scope gpos] [] pos) (tGSum T CD wi g tt te (own.map (·.2))) := by
  refine ⟨fun pins s σ H Q I h => ?_⟩
  refine wpAny_Call_Name_kw (ld_blt I hg hm hb ?_)
  refine PyProof.Rows.callWith_builtin1 ?_ he (by rfl)
  rw [he]
  show wpAny _ _ (spliced ((false, eval (.GeneratorExp elt [⟨tg, iter, ifs, 0⟩] scope gpos) X.env) :: backTo pos (starEach [] X.env))) _ _ s
  have hd : X.A.in1.handled = none := hr.hd
  have hroom : X.A.depth < recursionLimit := by have := hr.dp; omega
  refine Calls.spliced_cons (gen_make (T := T) (wi := wi) hN hr I bm hcode hmT hi ok hno hco hdot hs h fun J H1 q => ⟨q.1, fun s2 I2 => hCD _ _ _ _ I2 q.2.1, fun H2 eN T2 a gn s5 na rdy => Calls.spliced_nil ?_⟩)
  obtain ⟨s4, C, code, fp, it, tn, Tn, I5, st5, n5, hgs, back⟩ := rdy
  have hgen : s5.heap.IsGen a gn := (I5.hok a _ upd_same).1
  refine call_function_tree F.kind_sum F.plain_sum F.entry_sum (F.args_sum1 _) ?_
  unfold Builtin.«sum»
  simp only [List.length_cons, List.length_nil]
  rw [if_neg (by decide)]
  refine wpAny_bind (wpAny_of_eq (show Builtin.Builtins.bindParams "sum" ["start"] 0 { } = pure [none] from rfl) ?_)
  refine wpAny_bind (wpAny_pyIter_gen hgen ?_)
  refine wpAny_bind (wpAny_mkInt ?_)
  refine wpAny_bind (wpAny_pure ?_)
  simp only [List.forIn_cons, List.forIn_nil]
  refine wpAny_bind (wpAny_bind (wpAny_bind (wpAny_isInstance (T := "int") (b := false) (typeIs_int _ _ _) PySem.sub_int_str ?_)))
  simp only [Bool.false_eq_true, if_false]
  refine wpAny_pure (wpAny_bind (wpAny_bind (wpAny_isInstance (T := "int") (b := false) (typeIs_int _ _ _) PySem.sub_int_bytes ?_)))
  simp only [Bool.false_eq_true, if_false]
  refine wpAny_pure (wpAny_bind (wpAny_bind (wpAny_isInstance (T := "int") (b := false) (typeIs_int _ _ _) PySem.sub_int_bytearray ?_)))
  simp only [Bool.false_eq_true, if_false]
  refine wpAny_pure (wpAny_pure ?_)
  refine wpAny_bind (wpAny_newObj_type ?_)
  generalize hS : s5.heap.objs.size = S
  have nS : upd H2 a (genO a gn) S = none := I5.hok.fresh (Nat.le_of_eq hS)
  obtain ⟨zs, W, ⟨m0, w0⟩, step⟩ := q.2.2 H2 eN T2 a gn na S nS
  refine wpAny_pure ⟨plainId_quiet F.plain_sum_loop _, ?_⟩
  have I6 := I5.laid (a := S) (o := .lst [.int 0]) (t' := s5.toks + 1) (h' := s5.heap.push { cls := .type "list", data := .seq ([Value.int 0 s5.toks] : List Value).toArray }) (fun b u e => Heap.get?_push_of_some _ e) (Nat.le_of_eq hS) ⟨by show 1 ≤ sizeLine; decide, [.int 0 s5.toks], 0, .cons ⟨_, rfl⟩ .nil, by rw [← hS]; exact Heap.get?_push_size _ rfl⟩
  have tk0 : (zs.take 0).sum = 0 := rfl
  have hP : Pend (GC X X.A.in1.in1 s4 H2 scope C code fp) (wipe σ (own.map (·.2))) fp tn (fun n _ => 0 < n ∧ n ≤ zs.length + 1) W (zs.length + 1) { s5 with heap := s5.heap.push { cls := .type "list", data := .seq ([Value.int 0 s5.toks] : List Value).toArray }, toks := s5.toks + 1 } :=
    ⟨0, m0, _, ⟨Nat.succ_pos _, Nat.le_refl _⟩, I6, Tn.keep _ _ _ st5 fun b _ o e => Heap.get?_push_of_some _ e, fun b hb => by
      rw [upd_ne (fun z => ?_)]
      · exact n5 b hb
      · obtain ⟨o, e, _⟩ := Tn.obj _ _ st5 b hb
        have := Heap.lt_size e
        rw [z, ← hS] at this
        exact absurd this (Nat.lt_irrefl _), w0⟩
  refine sum_loop (cx := GC X X.A.in1.in1 s4 H2 scope C code fp) (A := X.A) (σ0 := wipe σ (own.map (·.2))) (fp := fp) (tn := tn) (S := S) (Bd := fun n _ => 0 < n ∧ n ≤ zs.length + 1) (W := W)
    (VV := fun n i m y H5 => ∃ z, y = .int z ∧ zs[zs.length + 1 - n]? = some z ∧ H5 S = some (.lst [.int (zs.take (zs.length + 1 - n)).sum]) ∧ ∃ m', W (n - 1) (i + 1) m' (upd H5 S (.lst [.int ((zs.take (zs.length + 1 - n)).sum + z)]))) (QE := fun n H => n = 1 ∧ Q (.int zs.sum) H) (a := a) (gn := gn)
    (fun n => (zs.take (zs.length + 1 - n)).sum) (fun n m h => h.1) hd hroom Tn.keep ?g1 ?g2 ?g3 (zs.length + 1) _ 0 (.inl rfl) ⟨_, hgs, fun s6 hp => ⟨rfl, seg_gen0 (fun n m h => h.1) (fun n m m' h h' => h) hc hco Tn (pg s4 H2 C code fp) (pt s4 H2 C code fp) (pe s4 H2 C code fp) (wipe_wipe σ _) ?g4 (zs.length + 1) s6 hp⟩⟩ hP
  case g1 =>
    intro n i m H w
    obtain ⟨h2, h3, _⟩ := step n i m H w
    exact ⟨h2, h3⟩
  case g2 =>
    rintro n H s1 I7 ⟨rfl, q7⟩ t
    refine ⟨.int zs.sum, H, back H s1 I7, ⟨t, ?_⟩, q7⟩
    rw [Nat.add_sub_cancel, List.take_length]
  case g3 =>
    rintro n i m y H ⟨hn1, hn2⟩ ⟨z, ey, ez, eS, m', w'⟩
    have hlt : zs.length + 1 - (n + 1) < zs.length := (List.getElem?_eq_some_iff.mp ez).1
    have e2 : zs.length + 1 - n = (zs.length + 1 - (n + 1)) + 1 := by omega
    have e3 : (zs.take (zs.length + 1 - n)).sum = (zs.take (zs.length + 1 - (n + 1))).sum + z := by
      rw [e2, List.take_succ, ez]
      simp
    refine ⟨z, ey, eS, e3, m', ⟨by omega, by omega⟩, ?_⟩
    rw [e3]
    exact w'
  case g4 => exact fun n i m H w => (step n i m H w).2.2
end
end DL
set_option Elab.async false
set_option linter.all false
set_option maxRecDepth 100000
set_option maxHeartbeats 2000000
namespace DL
open PySem PySem.Spec PyProof.Rows L2
def anyF (stop : Bool) (put : D → Env → Option Env) (ft : Env → DS → R Bool) (fe : Env → DS → R D) (η0 : Env) : List D → DS → R D
  | [], s => .ok (.bl (!stop)) s
  | d :: ds, s => match put d η0 with
    | none => .bad
    | some η1 => (ft η1 s).nx.bind fun b s1 => if b = true then (fe η1 s1).nx.bind fun y s2 => (R.ofO (asB y) s2).bind fun t s3 => if t = stop then .ok (.bl stop) s3 else anyF stop put ft fe η0 ds s3 else anyF stop put ft fe η0 ds s1
def gAnyD (stop : Bool) (fi : Env → DS → R (List D)) (put : D → Env → Option Env) (ft : Env → DS → R Bool) (fe : Env → DS → R D) (vs : List Nat) : Env → DS → R D := fun η s => (fi η s).bind fun ds s1 => anyF stop put ft fe (wipeE η vs) ds s1
def gSumD (fi : Env → DS → R (List D)) (put : D → Env → Option Env) (ft : Env → DS → R Bool) (fe : Env → DS → R D) (vs : List Nat) : Env → DS → R D := fun η s => (fi η s).bind fun ds s1 => (lcF put ft fe (wipeE η vs) ds s1).bind fun ys s2 => (R.ofO (intsOf ys) s2).bind fun zs s3 => .ok (.int zs.sum) s3
section
variable {M : Mp} {X : Cx} {W : WX}
theorem gblk_e {scope : Scope} {elt : Expr} {fe : Env → DS → R D} (h : ∀ s H C code fp, DE M (GC X X.A.in1.in1 s H scope C code fp) W0 elt fe) : ∃ te : TE, (∀ s H C code fp, PE (GC X X.A.in1.in1 s H scope C code fp) elt te) ∧ EEx M X W0 te fe := by
  refine ⟨fun σ H Q => ∀ s H0 C cl fp, Classical.choose (h s H0 C cl fp).ex σ H Q, fun s H0 C cl fp => ⟨fun pins s1 σ H Q I hw => (Classical.choose_spec (h s H0 C cl fp).ex).1.run pins s1 σ H Q I (hw s H0 C cl fp)⟩, ?_⟩
  intro A σ H G hs own η s Q I r s0 H0 C cl fp
  exact (Classical.choose_spec (h s0 H0 C cl fp).ex).2 A σ H G hs own η s Q I r
theorem gblk_t {scope : Scope} {ifs : List Expr} {ft : Env → DS → R Bool} (h : ∀ s H C code fp, DTs M (GC X X.A.in1.in1 s H scope C code fp) W0 ifs ft) : ∃ tt : TT, (∀ s H C code fp, PTs (GC X X.A.in1.in1 s H scope C code fp) ifs tt) ∧ TEx M X W0 tt ft := by
  refine ⟨fun σ H Q => ∀ s H0 C cl fp, Classical.choose (h s H0 C cl fp).ex σ H Q, fun s H0 C cl fp => ⟨fun pins s1 σ H Q I hw => (Classical.choose_spec (h s H0 C cl fp).ex).1.run pins s1 σ H Q I (hw s H0 C cl fp)⟩, ?_⟩
  intro A σ H G hs own η s Q I r s0 H0 C cl fp
  exact (Classical.choose_spec (h s0 H0 C cl fp).ex).2 A σ H G hs own η s Q I r
theorem gblk_g {scope : Scope} {tg : Expr} {put : D → Env → Option Env} {is : List Nat} (h : ∀ s H C code fp, DG M (GC X X.A.in1.in1 s H scope C code fp) tg put is) : ∃ g : TG, (∀ s H C code fp, PG (GC X X.A.in1.in1 s H scope C code fp) tg g) ∧ GEx M X g put is := by
  refine ⟨fun v σ H Q => ∀ s H0 C cl fp, Classical.choose (h s H0 C cl fp).ex v σ H Q, fun s H0 C cl fp => ⟨fun pins s1 σ H v u Q I r hw => (Classical.choose_spec (h s H0 C cl fp).ex).1.run pins s1 σ H v u Q I r (hw s H0 C cl fp)⟩, ?_⟩
  intro A σ H G hs own η η' s d v Q I hr e k s0 H0 C cl fp
  exact (Classical.choose_spec (h s0 H0 C cl fp).ex).2 A σ H G hs own η η' s d v Q I hr e k
theorem gany_sem {wi : TI} {g : TG} {tt : TT} {te : TE} {vs is : List Nat} {fi : Env → DS → R (List D)} {put : D → Env → Option Env} {ft : Env → DS → R Bool} {fe : Env → DS → R D} (stop : Bool)
    (ki : ∀ (A : Anc) (σ : L2.St) (H G : Hp) (hs : List Addr) (own : Nat → Addr) (η : Env) (s : DS) (Q : It → Hp → Prop), Sm X.K M A σ H G hs own η s → RPost X.K M σ W G hs H (fi η s) (fun ds G' hs' _ H' => ∀ J, ItS X.K M G' hs' H' J ds → Q J H') → wi σ H Q)
    (kg : GEx M X g put is) (kt : TEx M X W0 tt ft) (ke : EEx M X W0 te fe) (hv : (is.all fun j => vs.contains j) = true) : EEx M X W (tGAny M.tabs stop wi g tt te vs) (gAnyD stop fi put ft fe vs) := by
  intro A σ H0 G0 hs0 own η s0 Q I0 hp
  refine ki A σ H0 G0 hs0 own η s0 _ I0 (hp.bind.mono fun ds G1 hs1 s1 H1 S1 J1 h1 J hJ => ⟨J1.tab, fun H2 eN T2 a gn na => ?_⟩)
  have I1 := I0.step S1 J1
  obtain ⟨Sx, Jx⟩ := extN_step J1 eN T2
  obtain ⟨fa1, fa2, fa3⟩ := Jx.free na
  have ext : ∀ b u, H2 b = some u → upd H2 a (genO a gn) b = some u := fun b u e => by rw [upd_ne (ne_of_none e na)]; exact e
  have no : ∀ ps, genO a gn ≠ HO.tbl ps := fun ps z => by cases z
  have his : ∀ j ∈ is, j ∈ vs := fun j hj => List.contains_iff_mem.mp (List.all_eq_true.mp hv j hj)
  refine ⟨fun i m H => ∃ G hs s, Stp M G1 hs1 H1 G hs H ∧ Sim X.K M G hs s H ∧ H a = some (genO a gn) ∧ G a = none ∧ a ∉ hs ∧ i ≤ ds.length ∧ m = ds.length - i ∧
    RPost X.K M σ W G hs H (anyF stop put ft fe (wipeE η vs) (ds.drop i) s) (fun d G' hs' s' H' => ∀ v, Rep X.K M G' hs' d v → Q v H'),
    ⟨ds.length, G1, hs1, s1, Sx.trans (Stp.extH ext), Jx.extH ext, upd_same, fa1, fa2, Nat.zero_le _, rfl, RPost.step (Sx.trans (Stp.extH ext)) h1⟩, ?_⟩
  rintro i m H ⟨G, hs, s, S, J2, ea, gA, nA, hi, rfl, hr⟩
  refine ⟨ea, ?_⟩
  obtain ⟨stp, go⟩ := hJ G hs s H S J2 i
  cases q : ds[i]? with
  | none =>
    have hn : ds.drop i = [] := List.drop_eq_nil_of_le (List.getElem?_eq_none_iff.mp q)
    rw [hn] at hr
    exact .inl ⟨stp q, hr G hs H (Stp.refl _ _ _ _) J2 _ (rep_bl.mpr rfl)⟩
  | some d =>
    have hlt : i < ds.length := (List.getElem?_eq_some_iff.mp q).1
    obtain ⟨go1, go2⟩ := go d q
    have hd : ds.drop i = d :: ds.drop (i + 1) := by
      rw [List.drop_eq_getElem_cons hlt]
      congr 1
      rw [List.getElem?_eq_getElem hlt] at q
      exact Option.some.inj q
    rw [hd, anyF] at hr
    refine .inr ⟨go1, fun x H2' y => ?_⟩
    obtain ⟨G2, S2, J3, hx⟩ := go2 x H2' y
    have a2 := S2.away ea nA gA no genO_nofix
    have e2 := S2.kp _ _ ea nA no
    have SS2 := S.trans S2
    split at hr
    · exact hr.elim
    rename_i η1 e1
    have I2 := (I1.step SS2 J3).wipe vs
    refine kg A _ H2' G2 hs own _ η1 s d x _ I2 hx e1 fun σ2 I3 chg => ⟨wipe_eq chg his, ?_⟩
    refine kt A σ2 H2' G2 hs own η1 s _ I3 ?_
    cases qt : ft η1 s with
    | ex c p s' => rw [qt] at hr; exact hr.elim
    | bad => rw [qt] at hr; exact hr.elim
    | ok b s3 =>
      rw [qt] at hr
      intro G3 hs3 H3 S3 J4
      have a3 := S3.away e2 a2.2 a2.1 no genO_nofix
      have e3 := S3.kp _ _ e2 a2.2 no
      have SS3 := SS2.trans S3
      have hr2 : RPost X.K M σ W G hs H (if b = true then (fe η1 s3).nx.bind fun y s2 => (R.ofO (asB y) s2).bind fun t s3 => if t = stop then .ok (.bl stop) s3 else anyF stop put ft fe (wipeE η vs) (ds.drop (i + 1)) s3 else anyF stop put ft fe (wipeE η vs) (ds.drop (i + 1)) s3) _ := hr
      cases b with
      | false =>
        rw [if_neg Bool.false_ne_true] at hr2 ⊢
        exact ⟨ds.length - (i + 1), by omega, G3, hs3, s3, SS3, J4, e3, a3.1, a3.2, hlt, rfl, RPost.step (S2.trans S3) hr2⟩
      | true =>
        rw [if_pos rfl] at hr2 ⊢
        have I4 := I3.step S3 J4
        refine ke A σ2 H3 G3 hs3 own η1 s3 _ I4 ?_
        cases qe : fe η1 s3 with
        | ex c p s' => rw [qe] at hr2; exact hr2.elim
        | bad => rw [qe] at hr2; exact hr2.elim
        | ok z s4 =>
          rw [qe] at hr2
          intro G4 hs4 H4 S4 J5 v hv
          have a4 := S4.away e3 a3.2 a3.1 no genO_nofix
          have e4 := S4.kp _ _ e3 a3.2 no
          have SS4 := SS3.trans S4
          have hr3 : RPost X.K M σ W G hs H ((R.ofO (asB z) s4).bind fun t s3 => if t = stop then .ok (.bl stop) s3 else anyF stop put ft fe (wipeE η vs) (ds.drop (i + 1)) s3) _ := hr2
          obtain ⟨t, et, k⟩ := hr3.bind.ofO
          have k2 := k G4 hs4 H4 ((S2.trans S3).trans S4) J5
          rw [asB_some et] at hv
          refine ⟨t, rep_bl.mp hv, fun ht => ?_, fun ht => ?_⟩
          · rw [if_pos ht] at k2
            exact k2 G4 hs4 H4 (Stp.refl _ _ _ _) J5 _ (rep_bl.mpr rfl)
          · rw [if_neg (by rw [ht]; cases stop <;> decide)] at k2
            exact ⟨ds.length - (i + 1), by omega, G4, hs4, s4, SS4, J5, e4, a4.1, a4.2, hlt, rfl, k2⟩
theorem lcF_noex {put : D → Env → Option Env} {ft : Env → DS → R Bool} {fe : Env → DS → R D} {η : Env} : ∀ {ds : List D} {s : DS} {c : Nat} {p : List D} {s' : DS}, lcF put ft fe η ds s ≠ .ex c p s'
  | [], s, c, p, s', h => by cases h
  | d :: ds, s, c, p, s', h => by
    rw [lcF] at h
    split at h
    · cases h
    · rename_i η1 _
      cases qt : ft η1 s with
      | ex _ _ _ => rw [qt] at h; cases h
      | bad => rw [qt] at h; cases h
      | ok b s1 =>
        rw [qt] at h
        have h2 : (if b = true then (fe η1 s1).nx.bind fun y s2 => (lcF put ft fe η ds s2).bind fun ys s3 => .ok (y :: ys) s3 else lcF put ft fe η ds s1) = R.ex c p s' := h
        cases b with
        | false => rw [if_neg Bool.false_ne_true] at h2; exact lcF_noex h2
        | true =>
          rw [if_pos rfl] at h2
          cases qe : fe η1 s1 with
          | ex _ _ _ => rw [qe] at h2; cases h2
          | bad => rw [qe] at h2; cases h2
          | ok y s2 =>
            rw [qe] at h2
            have h3 : ((lcF put ft fe η ds s2).bind fun ys s3 => R.ok (y :: ys) s3) = R.ex c p s' := h2
            cases ql : lcF put ft fe η ds s2 with
            | ok _ _ => rw [ql] at h3; cases h3
            | bad => rw [ql] at h3; cases h3
            | ex _ _ _ => exact lcF_noex ql
theorem gsum_sem {CD : Hp → Prop} (hCD : ∀ G hs s H, Sim X.K M G hs s H → CD H) {wi : TI} {g : TG} {tt : TT} {te : TE} {vs is : List Nat} {fi : Env → DS → R (List D)} {put : D → Env → Option Env} {ft : Env → DS → R Bool} {fe : Env → DS → R D}
    (ki : ∀ (A : Anc) (σ : L2.St) (H G : Hp) (hs : List Addr) (own : Nat → Addr) (η : Env) (s : DS) (Q : It → Hp → Prop), Sm X.K M A σ H G hs own η s → RPost X.K M σ W G hs H (fi η s) (fun ds G' hs' _ H' => ∀ J, ItS X.K M G' hs' H' J ds → Q J H') → wi σ H Q)
    (kg : GEx M X g put is) (kt : TEx M X W0 tt ft) (ke : EEx M X W0 te fe) (hv : (is.all fun j => vs.contains j) = true) : EEx M X W (tGSum M.tabs CD wi g tt te vs) (gSumD fi put ft fe vs) := by
  intro A σ H0 G0 hs0 own η s0 Q I0 hp
  refine ki A σ H0 G0 hs0 own η s0 _ I0 (hp.bind.mono fun ds G1 hs1 s1 H1 S1 J1 h1 J hJ => ⟨J1.tab, hCD _ _ _ _ J1, fun H2 eN T2 a gn na S nS => ?_⟩)
  have I1 := I0.step S1 J1
  obtain ⟨Sx, Jx⟩ := extN_step J1 eN T2
  have ext : ∀ b u, H2 b = some u → upd H2 a (genO a gn) b = some u := fun b u e => by rw [upd_ne (ne_of_none e na)]; exact e
  have no : ∀ ps, genO a gn ≠ HO.tbl ps := fun ps z => by cases z
  have Ja := Jx.extH ext
  have Sa := Sx.trans (Stp.extH (M := M) (G := G1) (hs := hs1) ext)
  obtain ⟨fS1, fS2, fS3⟩ := Ja.free nS
  have extS : ∀ b u, upd H2 a (genO a gn) b = some u → upd (upd H2 a (genO a gn)) S (.lst [.int 0]) b = some u := fun b u e => by rw [upd_ne (ne_of_none e nS)]; exact e
  have neaS : a ≠ S := fun z => by rw [← z, upd_same] at nS; cases nS
  obtain ⟨fa1, fa2, fa3⟩ := Jx.free na
  have his : ∀ j ∈ is, j ∈ vs := fun j hj => List.contains_iff_mem.mp (List.all_eq_true.mp hv j hj)
  -- all that is summed
  cases el : lcF put ft fe (wipeE η vs) ds s1 with
  | ex c p s' => exact absurd el lcF_noex
  | bad => exfalso; rw [el] at h1; exact h1
  | ok ys sE =>
    rw [el] at h1
    have h2 : RPost X.K M σ W G1 hs1 H1 ((R.ofO (intsOf ys) sE).bind fun zs s3 => .ok (.int zs.sum) s3) (fun d G' hs' s' H' => ∀ v, Rep X.K M G' hs' d v → Q v H') := h1
    cases ez : intsOf ys with
    | none => exfalso; rw [ez] at h2; exact h2
    | some zs =>
      rw [ez] at h2
      have hQ : ∀ G' hs' H', Stp M G1 hs1 H1 G' hs' H' → Sim X.K M G' hs' sE H' → Q (.int zs.sum) H' := fun G' hs' H' S' J' => h2 G' hs' H' S' J' _ (rep_int.mpr rfl)
      have eys := intsOf_some ez
      refine ⟨zs, fun n i m H => ∃ G hs s, Stp M G1 hs1 H1 G hs H ∧ Sim X.K M G hs s H ∧ H a = some (genO a gn) ∧ G a = none ∧ a ∉ hs ∧ H S = some (.lst [.int (zs.take (zs.length + 1 - n)).sum]) ∧ G S = none ∧ S ∉ hs ∧ 0 < n ∧ n ≤ zs.length + 1 ∧ i ≤ ds.length ∧ m = ds.length - i ∧
        lcF put ft fe (wipeE η vs) (ds.drop i) s = .ok (ys.drop (zs.length + 1 - n)) sE,
        ⟨ds.length, G1, hs1, s1, Sa.trans (Stp.extH extS), Ja.extH extS, by rw [upd_ne neaS, upd_same], fa1, fa2, by rw [upd_same, Nat.sub_self]; rfl, fS1, fS2, Nat.succ_pos _, Nat.le_refl _, Nat.zero_le _, rfl, by rw [Nat.sub_self]; exact el⟩, ?_⟩
      rintro n i m H ⟨G, hs, s, St, J2, ea, gA, nA, eS, gS, nSh, hn0, hn1, hi, rfl, hr⟩
      refine ⟨ea, eS, ?_⟩
      have noS : ∀ (l : List V) ps, HO.lst l ≠ HO.tbl ps := fun l ps z => by cases z
      have elen : ys.length = zs.length := by rw [eys, List.length_map]
      obtain ⟨stp, go⟩ := hJ G hs s H St J2 i
      cases q : ds[i]? with
      | none =>
        have hn : ds.drop i = [] := List.drop_eq_nil_of_le (List.getElem?_eq_none_iff.mp q)
        rw [hn, lcF] at hr
        injection hr with e1 e2
        have e3 : (ys.drop (zs.length + 1 - n)).length = 0 := by rw [← e1]; rfl
        rw [List.length_drop, elen] at e3
        subst e2
        exact .inl ⟨stp q, by omega, hQ G hs H St J2⟩
      | some d =>
        have hlt : i < ds.length := (List.getElem?_eq_some_iff.mp q).1
        obtain ⟨go1, go2⟩ := go d q
        have hd : ds.drop i = d :: ds.drop (i + 1) := by
          rw [List.drop_eq_getElem_cons hlt]
          congr 1
          rw [List.getElem?_eq_getElem hlt] at q
          exact Option.some.inj q
        rw [hd, lcF] at hr
        refine .inr ⟨go1, fun x H2' y => ?_⟩
        obtain ⟨G2, S2, J3, hx⟩ := go2 x H2' y
        have a2 := S2.away ea nA gA no genO_nofix
        have e2 := S2.kp _ _ ea nA no
        have b2 := S2.away eS nSh gS (noS _)
        have d2 := S2.kp _ _ eS nSh (noS _)
        have SS2 := St.trans S2
        split at hr
        · cases hr
        rename_i η1 e1
        have I2 := (I1.step SS2 J3).wipe vs
        refine kg A _ H2' G2 hs own _ η1 s d x _ I2 hx e1 fun σ2 I3 chg => ⟨wipe_eq chg his, ?_⟩
        refine kt A σ2 H2' G2 hs own η1 s _ I3 ?_
        cases qt : ft η1 s with
        | ex c p s' => rw [qt] at hr; cases hr
        | bad => rw [qt] at hr; cases hr
        | ok b s3 =>
          rw [qt] at hr
          intro G3 hs3 H3 S3 J4
          have a3 := S3.away e2 a2.2 a2.1 no genO_nofix
          have e3 := S3.kp _ _ e2 a2.2 no
          have b3 := S3.away d2 b2.2 b2.1 (noS _)
          have d3 := S3.kp _ _ d2 b2.2 (noS _)
          have SS3 := SS2.trans S3
          have hr2 : (if b = true then (fe η1 s3).nx.bind fun y s2 => (lcF put ft fe (wipeE η vs) (ds.drop (i + 1)) s2).bind fun ys s3 => .ok (y :: ys) s3 else lcF put ft fe (wipeE η vs) (ds.drop (i + 1)) s3) = R.ok (ys.drop (zs.length + 1 - n)) sE := hr
          cases b with
          | false =>
            rw [if_neg Bool.false_ne_true] at hr2 ⊢
            exact ⟨ds.length - (i + 1), by omega, G3, hs3, s3, SS3, J4, e3, a3.1, a3.2, d3, b3.1, b3.2, hn0, hn1, hlt, rfl, hr2⟩
          | true =>
            rw [if_pos rfl] at hr2 ⊢
            have I4 := I3.step S3 J4
            refine ke A σ2 H3 G3 hs3 own η1 s3 _ I4 ?_
            cases qe : fe η1 s3 with
            | ex c p s' => rw [qe] at hr2; cases hr2
            | bad => rw [qe] at hr2; cases hr2
            | ok z s4 =>
              rw [qe] at hr2
              intro G4 hs4 H4 S4 J5 v hv
              have a4 := S4.away e3 a3.2 a3.1 no genO_nofix
              have e4 := S4.kp _ _ e3 a3.2 no
              have b4 := S4.away d3 b3.2 b3.1 (noS _)
              have d4 := S4.kp _ _ d3 b3.2 (noS _)
              have SS4 := SS3.trans S4
              have hr3 : ((lcF put ft fe (wipeE η vs) (ds.drop (i + 1)) s4).bind fun ys s3 => R.ok (z :: ys) s3) = R.ok (ys.drop (zs.length + 1 - n)) sE := hr2
              cases ql : lcF put ft fe (wipeE η vs) (ds.drop (i + 1)) s4 with
              | ex c p s' => rw [ql] at hr3; cases hr3
              | bad => rw [ql] at hr3; cases hr3
              | ok yr s5 =>
                rw [ql] at hr3
                injection hr3 with k1 k2
                subst k2
                have hl2 : zs.length + 1 - n < ys.length := by
                  have : (ys.drop (zs.length + 1 - n)).length = yr.length + 1 := by rw [← k1]; rfl
                  rw [List.length_drop] at this
                  omega
                rw [List.drop_eq_getElem_cons hl2] at k1
                injection k1 with k3 k4
                have hz : ∃ zi, zs[zs.length + 1 - n]? = some zi ∧ z = .int zi := by
                  rw [elen] at hl2
                  refine ⟨zs[zs.length + 1 - n], List.getElem?_eq_getElem hl2, ?_⟩
                  rw [k3]
                  simp only [eys, List.getElem_map]
                obtain ⟨zi, hz1, rfl⟩ := hz
                rw [elen] at hl2
                have en : zs.length + 1 - (n - 1) = zs.length + 1 - n + 1 := by omega
                refine ⟨zi, rep_int.mp hv, hz1, d4, ds.length - (i + 1), G4, hs4, s4, ?_, J5.updU b4.1 b4.2 fS3 (by rw [d4]; exact fun f z => by cases f <;> cases z), ?_, a4.1, a4.2, ?_, b4.1, b4.2, by omega, by omega, hlt, rfl, ?_⟩
                · refine ⟨SS4.gg, SS4.fr, SS4.hp, SS4.hf, fun b u e nb t => ?_, fun b e => ?_⟩
                  · have hbS : b ≠ S := fun z => by
                      have h9 := Sa.kp b u e nb t
                      rw [z, nS] at h9
                      cases h9
                    rw [upd_ne hbS]
                    exact SS4.kp b u e nb t
                  · by_cases z : b = S
                    · rw [z]
                      exact Sa.dm S (nt_none nS)
                    · exact SS4.dm b fun u q => e u (by rw [upd_ne z]; exact q)
                · rw [upd_ne neaS]
                  exact e4
                · rw [upd_same, en, List.take_succ, hz1]
                  simp
                · rw [ql, en, k4]
theorem genC_of {N : List Str} {sc scope : Scope} {own : List (Str × Nat)} (h : genC N sc scope own = true) : BlkOk N sc scope own ∧ (∀ y ∈ scope.names, y.2 ≠ .cell) ∧ scope.isCoroutine = false ∧ scope.names.lookup (".0" : Str) = some NameKind.local := by
  unfold genC at h
  simp only [Bool.and_eq_true, List.all_eq_true, bne_iff_ne, beq_iff_eq] at h
  exact ⟨blkOk_by h.1.1.1, h.1.1.2, h.1.2, h.2⟩
section
variable {c P : Addr} {k : Nat} {tg elt iter : Expr} {ifs : List Expr} {scope : Scope} {own : List (Str × Nat)} {gpos p pos : Pos} {is : List Nat} {fi : Env → DS → R (List D)} {put : D → Env → Option Env} {ft : Env → DS → R Bool} {fe : Env → DS → R D}
theorem de_gany (hc : X.calm = true) (hN : X.N.Nodup) (hr : Room k X.A) (hm : X.mg "any" = none) (TB : LamX.TabB X.base X.mg c P) (hcode : X.env.code = .ref c) (hmT : HasT M.tabs P (X.env.qual ++ "<genexpr>") gpos)
    (hi : DIS M X W tg iter fi) (ok : genC X.N X.env.scope scope own = true) (hgt : ∀ s H C code fp, DG M (GC X X.A.in1.in1 s H scope C code fp) tg put is) (ht : ∀ s H C code fp, DTs M (GC X X.A.in1.in1 s H scope C code fp) W0 ifs ft) (he : ∀ s H C code fp, DE M (GC X X.A.in1.in1 s H scope C code fp) W0 elt fe)
    (hv : (is.all fun j => (own.map (·.2)).contains j) = true := by rfl) (hs : ∀ v, genFold iter X.env v = pure v := by intro _; rfl) (hg : Gl X "any" := by rfl) (hst : starEach [.GeneratorExp elt [⟨tg, iter, ifs, 0⟩] scope gpos] X.env = (false, eval (.GeneratorExp elt [⟨tg, iter, ifs, 0⟩] scope gpos) X.env) :: starEach [] X.env := by rfl) :
    DE M X W (.Call (.Name "any" p) [.GeneratorExp elt [⟨tg, iter, ifs, 0⟩] scope gpos] [] pos) (gAnyD true fi put ft fe (own.map (·.2))) := by
  obtain ⟨wi, pi, ki⟩ := hi.ex
  obtain ⟨g, pg, kg⟩ := gblk_g hgt
  obtain ⟨tt, pt, kt⟩ := gblk_t ht
  obtain ⟨te, pe, ke⟩ := gblk_e he
  obtain ⟨b1, b2, b3, b4⟩ := genC_of ok
  exact ⟨_, pe_gany hc hN hr hg hm TB hcode hmT pi b1 b2 b3 b4 pg pt pe hs hst, gany_sem (true) ki kg kt ke hv⟩
theorem de_gsum (hc : X.calm = true) (hN : X.N.Nodup) (hr : Room k X.A) (hm : X.mg "sum" = none) (TB : LamX.TabB X.base X.mg c P) (hcode : X.env.code = .ref c) (hmT : HasT M.tabs P (X.env.qual ++ "<genexpr>") gpos)
    (hi : DIS M X W tg iter fi) (ok : genC X.N X.env.scope scope own = true) (hgt : ∀ s H C code fp, DG M (GC X X.A.in1.in1 s H scope C code fp) tg put is) (ht : ∀ s H C code fp, DTs M (GC X X.A.in1.in1 s H scope C code fp) W0 ifs ft) (he : ∀ s H C code fp, DE M (GC X X.A.in1.in1 s H scope C code fp) W0 elt fe)
    (hv : (is.all fun j => (own.map (·.2)).contains j) = true := by rfl) (hs : ∀ v, genFold iter X.env v = pure v := by intro _; rfl) (hg : Gl X "sum" := by rfl) (hst : starEach [.GeneratorExp elt [⟨tg, iter, ifs, 0⟩] scope gpos] X.env = (false, eval (.GeneratorExp elt [⟨tg, iter, ifs, 0⟩] scope gpos) X.env) :: starEach [] X.env := by rfl) :
    DE M X W (.Call (.Name "sum" p) [.GeneratorExp elt [⟨tg, iter, ifs, 0⟩] scope gpos] [] pos) (gSumD fi put ft fe (own.map (·.2))) := by
  obtain ⟨wi, pi, ki⟩ := hi.ex
  obtain ⟨g, pg, kg⟩ := gblk_g hgt
  obtain ⟨tt, pt, kt⟩ := gblk_t ht
  obtain ⟨te, pe, ke⟩ := gblk_e he
  obtain ⟨b1, b2, b3, b4⟩ := genC_of ok
  exact ⟨_, pe_gsum (fun _ => True) (fun _ _ _ _ I _ => TB.code.keeps I.bk) hc hN hr hg hm TB.bm hcode hmT pi b1 b2 b3 b4 pg pt pe hs hst, gsum_sem (fun _ _ _ _ _ => trivial) ki kg kt ke hv⟩
end
end
section
variable {X : Cx} {M : Mp}
theorem room_gen {k : Nat} {A : Around} {env : PySem.Env} (r : Room (k + 1) A) : Room k (A.in1.in1.deeper env) :=
  ⟨r.hd, by have := r.dp; show A.depth + 1 + 3 * k + 5 < _; omega, by have := r.un; show A.units + 1 + 1 + 3 + 16 * k + 200 < _; omega⟩
theorem genE {s : Shared} {H : Hp} {scope : Scope} {C : Addr} {code : Value} {fp : List Addr} {k : Nat} {e : Expr} {fb : Env → DS → R D} (hr : Room (k + 1) X.A)
    (h : Room k (GC X X.A.in1.in1 s H scope C code fp).A → (GC X X.A.in1.in1 s H scope C code fp).A.units + 64 < cLine → Takes (GC X X.A.in1.in1 s H scope C code fp) W0 → Flat W0 → DE M (GC X X.A.in1.in1 s H scope C code fp) W0 e fb) : DE M (GC X X.A.in1.in1 s H scope C code fp) W0 e fb :=
  h (room_gen hr) (room_gen hr).units L2.takes0 (fun _ _ _ _ _ z => z)
theorem genT {s : Shared} {H : Hp} {scope : Scope} {C : Addr} {code : Value} {fp : List Addr} {k : Nat} {e : List Expr} {fb : Env → DS → R Bool} (hr : Room (k + 1) X.A)
    (h : Room k (GC X X.A.in1.in1 s H scope C code fp).A → (GC X X.A.in1.in1 s H scope C code fp).A.units + 64 < cLine → Takes (GC X X.A.in1.in1 s H scope C code fp) W0 → Flat W0 → DTs M (GC X X.A.in1.in1 s H scope C code fp) W0 e fb) : DTs M (GC X X.A.in1.in1 s H scope C code fp) W0 e fb :=
  h (room_gen hr) (room_gen hr).units L2.takes0 (fun _ _ _ _ _ z => z)
end
end DL
set_option Elab.async false
set_option linter.all false
set_option maxRecDepth 100000
set_option maxHeartbeats 2000000
namespace DL
open PySem PySem.Spec PyProof.Rows L2
def zipL : List D → List D → List D
  | a :: l, b :: m => .tup [a, b] :: zipL l m
  | _, _ => []
def enumL (k : Int) : List D → List D
  | [] => []
  | d :: l => .tup [.int k, d] :: enumL (k + 1) l
def seqO : D → Option (Bool × List D)
  | .lst l => some (true, l)
  | .scr l => some (true, l.map D.int)
  | .tup l => some (false, l)
  | _ => none
noncomputable def zipO : List D → Option (List D)
  | [a, b] => (match seqO a, seqO b with
    | some (k, l), some (k', m) => if k = k' then some (zipL l m) else none
    | _, _ => none)
  | _ => none
def enumO : List D → Option (List D)
  | [.lst l] => some (enumL 0 l)
  | [.scr l] => some (enumL 0 (l.map D.int))
  | _ => none
end DL
set_option Elab.async false
set_option linter.all false
set_option maxRecDepth 100000
set_option maxHeartbeats 2000000
namespace DL
open PySem PySem.Spec PyProof.Rows L2
def min3O : List D → Option D
  | [.int i, .int j, .int k] => some (.int (min (min i j) k))
  | _ => none
def min4O : List D → Option D
  | [.int i, .int j, .int k, .int l] => some (.int (min (min (min i j) k) l))
  | _ => none
theorem min3_int {i j k : Int} : min3O [.int i, .int j, .int k] = some (.int (min (min i j) k)) := rfl
theorem min4_int {i j k l : Int} : min4O [.int i, .int j, .int k, .int l] = some (.int (min (min (min i j) k) l)) := rfl
section
variable {η : DL.Env} {s : DS} {fi : DL.Env → DS → R (List D)} {put : D → DL.Env → Option DL.Env} {ft : DL.Env → DS → R Bool} {fe : DL.Env → DS → R D} {vs : List Nat} {stop : Bool} {d : D} {ds : List D}
theorem gSumD_eq : gSumD fi put ft fe vs η s = (fi η s).bnd fun ds s1 => (lcF put ft fe (wipeE η vs) ds s1).bnd fun ys s2 => (R.ofO (intsOf ys) s2).bnd fun zs s3 => .ok (.int zs.sum) s3 := rfl
theorem gAnyD_eq : gAnyD stop fi put ft fe vs η s = (fi η s).bnd fun ds s1 => anyF stop put ft fe (wipeE η vs) ds s1 := rfl
theorem anyF_nil : anyF stop put ft fe η [] s = .ok (.bl (!stop)) s := rfl
theorem anyF_cons : anyF stop put ft fe η (d :: ds) s = match put d η with
    | none => .bad
    | some η1 => (ft η1 s).nx.bind fun b s1 => if b = true then (fe η1 s1).nx.bind fun y s2 => (R.ofO (asB y) s2).bind fun t s3 => if t = stop then .ok (.bl stop) s3 else anyF stop put ft fe η ds s3 else anyF stop put ft fe η ds s1 := by
  rw [anyF]
  try rfl
theorem intsOf_mapf {γ : Type} {f : γ → Int} : ∀ {l : List γ}, intsOf (l.map fun a => D.int (f a)) = some (l.map f)
  | [] => rfl
  | a :: l => by
    rw [List.map_cons, intsOf, intsOf_mapf]
    rfl
/-- any, all over what changes nothing -/
theorem anyF_pure {γ : Type} (e : γ → D) (t : γ → Bool) (y : γ → Bool) : ∀ (l : List γ), (∀ a ∈ l, ∃ η1, put (e a) η = some η1 ∧ ft η1 s = .ok (t a) s ∧ (t a = true → fe η1 s = .ok (.bl (y a)) s)) → anyF true put ft fe η (l.map e) s = .ok (.bl (l.any fun a => t a && y a)) s
  | [], _ => rfl
  | a :: l, h => by
    obtain ⟨η1, e1, e2, e3⟩ := h a List.mem_cons_self
    have ih := anyF_pure e t y l fun b hb => h b (List.mem_cons_of_mem _ hb)
    rw [List.map_cons, anyF_cons, e1]
    simp only [e2, R.nx, R.bind]
    cases q : t a with
    | false => simp only [Bool.false_eq_true, if_false, ih, List.any_cons, q, Bool.false_and, Bool.false_or]
    | true =>
      rw [e3 q]
      simp only [if_true, R.ofO, asB, List.any_cons, q, Bool.true_and]
      cases q2 : y a with
      | false => simp only [Bool.false_eq_true, if_false, ih, Bool.false_or]
      | true => simp only [if_true, Bool.true_or]
end
end DL
set_option Elab.async false
set_option linter.all false
set_option maxRecDepth 100000
set_option maxHeartbeats 2000000
namespace DL
open PySem PySem.Spec PyProof.Rows L2
def isI : D → Bool
  | .int _ => true
  | _ => false
def isS : D → Bool
  | .str _ => true
  | _ => false
def flt (x : D) (l : List D) : Bool := (isI x && l.all isI) || (isS x && l.all isS)
def inStr (i j : Str) : Bool := !(Builtin.Str.occurrences j i 0 j.length 1).isEmpty
def opIn : D → D → Option D
  | x, .lst l => if flt x l = true then some (.bl (l.any fun y => eqB y x)) else none
  | x, .tup l => if flt x l = true then some (.bl (l.any fun y => eqB y x)) else none
  | x, .scr l => if flt x (l.map D.int) = true then some (.bl ((l.map D.int).any fun y => eqB y x)) else none
  | .str i, .str j => some (.bl (inStr i j))
  | _, _ => none
def opNin : D → D → Option D
  | x, .lst l => if flt x l = true then some (.bl (!(l.any fun y => eqB y x))) else none
  | x, .tup l => if flt x l = true then some (.bl (!(l.any fun y => eqB y x))) else none
  | x, .scr l => if flt x (l.map D.int) = true then some (.bl (!((l.map D.int).any fun y => eqB y x))) else none
  | .str i, .str j => some (.bl (!(inStr i j)))
  | _, _ => none
section
variable {M : Mp} {X : Cx} {K : PySem.W.Frag}
theorem in_flat {G : Hp} {hs : List Addr} {x : D} {v : V} : ∀ {l : List D} {vs : List V}, flt x l = true → Rep K M G hs x v → RepL K M G hs l vs → flatV v = true ∧ vs.all flatV = true ∧ inV v vs = l.any fun y => eqB y x
  | [], vs, h, hx, hl => by
    rw [repL_nil] at hl
    subst hl
    refine ⟨?_, rfl, rfl⟩
    unfold flt at h
    cases x <;> simp [isI, isS] at h
    · rw [rep_int] at hx; subst hx; rfl
    · rw [rep_str] at hx; subst hx; rfl
  | y :: l, vs, h, hx, hl => by
    rw [repL_cons] at hl
    obtain ⟨w, vr, rfl, hy, hr⟩ := hl
    unfold flt at h
    simp only [List.all_cons, Bool.or_eq_true, Bool.and_eq_true] at h
    have h2 : flt x l = true := by
      unfold flt
      simp only [Bool.or_eq_true, Bool.and_eq_true]
      rcases h with ⟨a, b, c⟩ | ⟨a, b, c⟩
      · exact .inl ⟨a, c⟩
      · exact .inr ⟨a, c⟩
    obtain ⟨i1, i2, i3⟩ := in_flat h2 hx hr
    rcases h with ⟨a, b, _⟩ | ⟨a, b, _⟩
    · cases x <;> simp [isI] at a
      cases y <;> simp [isI] at b
      rw [rep_int] at hx hy
      subst hx hy
      refine ⟨rfl, by rw [List.all_cons, i2]; rfl, ?_⟩
      unfold inV at i3 ⊢
      rw [List.any_cons, List.any_cons, i3]
      congr 1
    · cases x <;> simp [isS] at a
      cases y <;> simp [isS] at b
      rw [rep_str] at hx hy
      subst hx hy
      refine ⟨rfl, by rw [List.all_cons, i2]; rfl, ?_⟩
      unfold inV at i3 ⊢
      rw [List.any_cons, List.any_cons, i3]
      congr 1
theorem RV.flt {G H : Hp} {hs : List Addr} {s : DS} {x : D} {l : List D} {v : V} (h : RV K M G hs H x v) (f : flt x l = true) : Rep K M G hs x v := by
  rcases h with h | ⟨a, e, h⟩
  · exact h
  · unfold DL.flt at f
    cases x <;> simp [isI, isS] at f <;> exact h.elim
theorem od_in : OpD M X (compareOp .In) opIn := by
  refine ⟨_, op_in_seq.or op_in_str, fun G hs s H x y z v u Q J hx hy e k => ?_⟩
  unfold opIn at e
  split at e
  · split at e
    · rename_i l hf
      cases e
      obtain ⟨a, vs, rfl, h1, h2⟩ := hy.lst J
      obtain ⟨i1, i2, i3⟩ := in_flat hf (hx.flt (s := s) hf) h2
      exact .inl ⟨a, vs, rfl, .inl (SqL.of h1), i1, i2, by rw [if_neg Bool.false_ne_true, i3]; exact k G H (Stp.refl _ _ _ _) J _ (rep_bl.mpr rfl)⟩
    · cases e
  · split at e
    · rename_i l hf
      cases e
      obtain ⟨a, vs, rfl, h1, h2⟩ := hy.tup J
      obtain ⟨i1, i2, i3⟩ := in_flat hf (hx.flt (s := s) hf) h2
      exact .inl ⟨a, vs, rfl, .inr h1, i1, i2, by rw [if_neg Bool.false_ne_true, i3]; exact k G H (Stp.refl _ _ _ _) J _ (rep_bl.mpr rfl)⟩
    · cases e
  · split at e
    · rename_i l hf
      cases e
      have hy2 : Rep X.K M G hs (.scr l) u := by
        rcases hy with hy | ⟨_, _, hy⟩
        · exact hy
        · exact hy.elim
      obtain ⟨a, rfl, h1⟩ := rep_scr.mp hy2
      obtain ⟨i1, i2, i3⟩ := in_flat hf (hx.flt (s := s) hf) (RepL.ints (ns := l).mpr rfl)
      exact .inl ⟨a, _, rfl, .inl (J.sub.seq h1), i1, i2, by rw [if_neg Bool.false_ne_true, i3]; exact k G H (Stp.refl _ _ _ _) J _ (rep_bl.mpr rfl)⟩
    · cases e
  · cases e
    exact .inr ⟨_, _, hx.str, hy.str, k G H (Stp.refl _ _ _ _) J _ (rep_bl.mpr rfl)⟩
  · cases e
end
theorem opIn_lst {x : D} {l : List D} (h : flt x l = true) : opIn x (.lst l) = some (.bl (l.any fun y => eqB y x)) := by
  unfold opIn
  cases x <;> exact if_pos h
theorem opIn_tup {x : D} {l : List D} (h : flt x l = true) : opIn x (.tup l) = some (.bl (l.any fun y => eqB y x)) := by
  unfold opIn
  cases x <;> exact if_pos h
theorem opNin_lst {x : D} {l : List D} (h : flt x l = true) : opNin x (.lst l) = some (.bl (!(l.any fun y => eqB y x))) := by
  unfold opNin
  cases x <;> exact if_pos h
theorem opNin_tup {x : D} {l : List D} (h : flt x l = true) : opNin x (.tup l) = some (.bl (!(l.any fun y => eqB y x))) := by
  unfold opNin
  cases x <;> exact if_pos h
theorem eqB_ii {a b : Int} : eqB (.int a) (.int b) = (a == b) := rfl
theorem eqB_ss {a b : Str} : eqB (.str a) (.str b) = (a == b) := rfl
end DL
set_option Elab.async false
set_option linter.all false
set_option maxRecDepth 100000
set_option maxHeartbeats 2000000
namespace DL
open PySem PySem.Spec PyProof.Rows L2
theorem opNeg_int {a : Int} : opNeg (.int a) = some (.int (-a)) := rfl
theorem listO_l {l : List D} : listO [.lst l] = some (.lst l) := rfl
theorem listO_t {l : List D} : listO [.tup l] = some (.lst l) := rfl
theorem tupleO_l {l : List D} : tupleO [.lst l] = some (.tup l) := rfl
theorem tupleO_t {l : List D} : tupleO [.tup l] = some (.tup l) := rfl
theorem zipO_ll {l m : List D} : zipO [.lst l, .lst m] = some (zipL l m) := by simp [zipO, seqO]
theorem zipO_tt {l m : List D} : zipO [.tup l, .tup m] = some (zipL l m) := by simp [zipO, seqO]
theorem enumO_l {l : List D} : enumO [.lst l] = some (enumL 0 l) := rfl
theorem sumO_map {γ : Type} {f : γ → Int} {l : List γ} : sumO [.lst (l.map fun a => D.int (f a))] = some (.int (l.map f).sum) := by
  simp [sumO, intsOf_mapf]
theorem lenO_l {l : List D} : lenO [.lst l] = some (.int (l.length : Nat)) := rfl
theorem lenO_t {l : List D} : lenO [.tup l] = some (.int (l.length : Nat)) := rfl
theorem opEq_ts {l : List D} {x : Str} : opEq (.tup l) (.str x) = some (.bl false) := by
  unfold opEq
  split
  · simp [eqB]
  · simp [seqStr]
theorem opEq_ls {l : List D} {x : Str} : opEq (.lst l) (.str x) = some (.bl false) := by
  unfold opEq
  split
  · simp [eqB]
  · simp [seqStr]
theorem opEq_st {l : List D} {x : Str} : opEq (.str x) (.tup l) = some (.bl false) := by
  unfold opEq
  split
  · simp [eqB]
  · simp [seqStr]
theorem opEq_sl {l : List D} {x : Str} : opEq (.str x) (.lst l) = some (.bl false) := by
  unfold opEq
  split
  · simp [eqB]
  · simp [seqStr]
theorem opNe_ts {l : List D} {x : Str} : opNe (.tup l) (.str x) = some (.bl true) := by
  unfold opNe
  split
  · simp [eqB]
  · simp [seqStr]
theorem opNe_ls {l : List D} {x : Str} : opNe (.lst l) (.str x) = some (.bl true) := by
  unfold opNe
  split
  · simp [eqB]
  · simp [seqStr]
theorem opNe_st {l : List D} {x : Str} : opNe (.str x) (.tup l) = some (.bl true) := by
  unfold opNe
  split
  · simp [eqB]
  · simp [seqStr]
theorem opNe_sl {l : List D} {x : Str} : opNe (.str x) (.lst l) = some (.bl true) := by
  unfold opNe
  split
  · simp [eqB]
  · simp [seqStr]
theorem frzL_nil {η : DL.Env} : frzL [] η = η := rfl
theorem frzL_cons {i : Nat} {is : List Nat} {η : DL.Env} : frzL (i :: is) η = frzL is (frzE η i) := rfl
theorem frzE_z {d : D} {η : DL.Env} (h : notObj d = true) : frzE (.o d :: η) 0 = .v d :: η := by simp [frzE, h]
theorem frzE_zl {l : List D} {η : DL.Env} : frzE (.o (.lst l) :: η) 0 = .v (.lst l) :: η := frzE_z rfl
theorem frzE_zd {l : List (D × D)} {η : DL.Env} : frzE (.o (.dic l) :: η) 0 = .o (.dic l) :: η := rfl
theorem frzE_zv {d : D} {η : DL.Env} : frzE (.v d :: η) 0 = .v d :: η := by simp [frzE]
theorem frzE_zn {η : DL.Env} : frzE (.no :: η) 0 = .no :: η := by simp [frzE]
theorem frzE_s {x : Sl} {η : DL.Env} {n : Nat} : frzE (x :: η) (n + 1) = x :: frzE η n := by
  unfold frzE
  simp only [List.getElem?_cons_succ]
  split
  · split <;> simp [*]
  · rfl
def anyPut (o : Option DL.Env) (f : DL.Env → R D) : R D := match o with
  | none => .bad
  | some η => f η
theorem anyPut_some {η : DL.Env} {f : DL.Env → R D} : anyPut (some η) f = f η := rfl
end DL
set_option Elab.async false
set_option linter.all false
set_option maxRecDepth 100000
set_option maxHeartbeats 2000000
namespace DL
open PySem PySem.Spec PyProof.Rows L2
section
variable {M : Mp} {X : Cx} {W : WX} {a b c d : Expr} {fa fb fc fd : Env → DS → R D} {pos : Pos}
def ch3D (o o' o'' : D → D → Option D) (fa fb fc fd : Env → DS → R D) : Env → DS → R D := fun η s => (fa η s).bind fun x s1 => (fb η s1).bind fun y s2 => (R.ofO (o (deref s2 x) (deref s2 y)) s2).bind fun z s3 =>
  (R.ofO (asB z) s3).bind fun k s3 => if k = true then (fc η s3).bind fun w s4 => (R.ofO (o' (deref s4 y) (deref s4 w)) s4).bind fun z2 s5 =>
    (R.ofO (asB z2) s5).bind fun k2 s5 => if k2 = true then (fd η s5).bind fun q s6 => R.ofO (o'' (deref s6 w) (deref s6 q)) s6 else .ok (.bl false) s5 else .ok (.bl false) s3
theorem ch3D_eq {o o' o'' : D → D → Option D} {η : DL.Env} {s : DS} : ch3D o o' o'' fa fb fc fd η s = (fa η s).bnd fun x s1 => (fb η s1).bnd fun y s2 => (R.ofO (o (deref s2 x) (deref s2 y)) s2).bnd fun z s3 =>
  (R.ofO (asB z) s3).bnd fun k s3 => if k = true then (fc η s3).bnd fun w s4 => (R.ofO (o' (deref s4 y) (deref s4 w)) s4).bnd fun z2 s5 =>
    (R.ofO (asB z2) s5).bnd fun k2 s5 => if k2 = true then (fd η s5).bnd fun q s6 => R.ofO (o'' (deref s6 w) (deref s6 q)) s6 else .ok (.bl false) s5 else .ok (.bl false) s3 := rfl
end
end DL
set_option Elab.async false
set_option linter.all false
set_option maxRecDepth 100000
set_option maxHeartbeats 2000000
namespace DL
open PySem PySem.Spec PyProof.Rows L2
structure MthD (M : Mp) (X : Cx) (T id : String) (ty : D → Bool) (o : D → List D → Option D) : Prop where
  ex : ∃ r, MtR X id r ∧ (∀ (G : Hp) (hs : List Addr) (s : DS) (H : Hp) (x : D) (v : V), Sim X.K M G hs s H → RV X.K M G hs H x v → ty x = true → tyV X.K T v H) ∧
    (∀ (G : Hp) (hs : List Addr) (s : DS) (H : Hp) (x z : D) (ds : List D) (v : V) (vs : List V) (Q : VK), Sim X.K M G hs s H → RV X.K M G hs H x v → RVL X.K M G hs H ds vs → o x ds = some z →
      (∀ G' H', Stp M G hs H G' hs H' → Sim X.K M G' hs s H' → ∀ w, Rep X.K M G' hs z w → Q w H') → r v vs H Q)
def mthD (ty : D → Bool) (o : D → List D → Option D) (fo : Env → DS → R D) (g : Env → DS → R (List D)) : Env → DS → R D := fun η s => (fo η s).bind fun x s1 => if ty (deref s1 x) = true then (g η s1).bind fun ds s2 => R.ofO (o (deref s2 x) (ds.map (deref s2))) s2 else .bad
section
variable {M : Mp} {X : Cx} {W : WX} {o e : Expr} {es : List Expr} {name : Str} {T id : String} {fo : Env → DS → R D} {g : Env → DS → R (List D)} {ty : D → Bool} {q : D → List D → Option D} {apos cpos : Pos}
theorem de_mth (pa : PlainAttrs T) (slot : Slot T name id) (hty : typeOf (.builtin id) = pure (.type "method_descriptor")) (hm : MthD M X T id ty q) (ho : DB M X W o fo) (ha : DAB M X W (e :: es) g)
    (hbase : attributeBase o name X.env (eval o X.env) = eval o X.env := by rfl)
    (hfew : ((backTo cpos (starEach (e :: es) X.env)).all (fun x => !x.1) && (backToKw cpos (keywordEach [] X.env)).all (fun x => x.1.isSome)
      && decide ((e :: es).length + ([] : List Keyword).length + (if ([] : List Keyword).isEmpty then 0 else 1) < 30)) = true := by rfl)
    (hline : (apos.endLine == cpos.line) = true := by rfl) (hse : starEach (e :: es) X.env = (false, eval e X.env) :: starEach es X.env := by rfl) (hplain : (backTo cpos (starEach es X.env)).any (·.1) = false := by rfl) :
    DE M X W (.Call (.Attribute o name apos) (e :: es) [] cpos) (mthD ty q fo g) := by
  obtain ⟨r, hr, hT, kw⟩ := hm.ex
  obtain ⟨t, p, h⟩ := ho.ex
  obtain ⟨ta, pa2, k⟩ := ha.ex
  refine ⟨_, pe_bm pa slot hty hr p pa2 hbase hfew hline hse hplain, fun A σ H G hs own η s Q I hp => ?_⟩
  refine h A σ H G hs own η s _ I (hp.bind.mono fun x G1 hs1 s1 H1 S1 J1 h1 v hv => ?_)
  split at h1
  · rename_i ht
    refine ⟨hT _ _ _ _ _ _ J1 (hv.read J1) ht, k A σ H1 G1 hs1 own η s1 _ (I.step S1 J1) (h1.bind.mono fun ds G2 hs2 s2 H2 S2 J2 h2 vs hvs => ?_)⟩
    obtain ⟨z, e2, k2⟩ := h2.ofO
    exact kw G2 hs2 s2 H2 _ z _ v vs Q J2 ((hv.step S2).read J2) (hvs.read J2) e2 fun G3 H3 S3 J3 w hw => k2 G3 hs2 H3 S3 J3 w hw
  · exact h1.elim
end
theorem mthD_eq {ty : D → Bool} {o : D → List D → Option D} {fo : Env → DS → R D} {g : Env → DS → R (List D)} {η : Env} {s : DS} : mthD ty o fo g η s = (fo η s).bnd fun x s1 => if ty (deref s1 x) = true then (g η s1).bnd fun ds s2 => R.ofO (o (deref s2 x) (ds.map (deref s2))) s2 else .bad := rfl
end DL
set_option Elab.async false
set_option linter.all false
set_option maxRecDepth 100000
set_option maxHeartbeats 2000000
namespace DL
open PySem PySem.Spec PyProof.Rows L2
def isDic : D → Bool
  | .dic _ => true
  | _ => false
section
variable {M : Mp} {X : Cx} {W : WX} {K : PySem.W.Frag} {G G1 H H1 : Hp} {hs hs1 : List Addr} {s : DS}
/-- a new dict, as a thing that stays -/
def calmDD (f : Env → DS → R D) : Env → DS → R D := fun η s => (f η s).bind fun d s1 => if isDic d = true then .ok d s1 else .bad
/-- a name that owns a dict owns it no more -/
def frzDB (i : Nat) (g : Env → DS → F) : Env → DS → F := fun η s => match η[i]? with
  | some (.o (.dic kvs)) => g (η.set i (.v (.dic kvs))) s
  | _ => .bad
def kEq : D → D → Bool
  | .int a, .int b => decide (a = b)
  | .str a, .str b => decide (a = b)
  | _, _ => false
def toK : D → Option Key
  | .int i => some (.inl i)
  | .str x => some (.inr x)
  | _ => none
theorem toK_keyD (k : Key) : toK (keyD k) = some k := by cases k <;> rfl
theorem kEq_keyD (a b : Key) : kEq (keyD a) (keyD b) = decide (a = b) := by
  cases a <;> cases b <;> simp [keyD, kEq]
def valD (kvs : List (D × D)) (k : D) : Option D := (kvs.find? fun p => kEq p.1 k).map (·.2)
def putD (kvs : List (D × D)) (k v : D) : List (D × D) := if (kvs.any fun p => kEq p.1 k) = true then kvs.map (fun p => if kEq p.1 k = true then (p.1, v) else p) else kvs ++ [(k, v)]
def dropD (kvs : List (D × D)) (k : D) : List (D × D) := kvs.filter fun p => !kEq p.1 k
def mergeD (kvs more : List (D × D)) : List (D × D) := more.foldl (fun acc kv => putD acc kv.1 kv.2) kvs
theorem repD_nil {vs : List (Key × V)} : RepD K M G hs [] vs ↔ vs = [] := by unfold RepD; rfl
theorem repD_cons {k d : D} {ds : List (D × D)} {vs : List (Key × V)} : RepD K M G hs ((k, d) :: ds) vs ↔ ∃ k' v vr, vs = (k', v) :: vr ∧ keyD k' = k ∧ Rep K M G hs d v ∧ RepD K M G hs ds vr := by
  constructor
  · intro h; unfold RepD at h; exact h
  · intro h; unfold RepD; exact h
theorem RepD.length : ∀ {ds : List (D × D)} {vs : List (Key × V)}, RepD K M G hs ds vs → ds.length = vs.length
  | [], vs, h => by rw [repD_nil] at h; subst h; rfl
  | (k, d) :: ds, vs, h => by
    rw [repD_cons] at h
    obtain ⟨k', v, vr, rfl, _, _, h3⟩ := h
    simp [RepD.length h3]
/-- what two sides hold at a key -/
def ORep (K : PySem.W.Frag) (M : Mp) (G : Hp) (hs : List Addr) : Option D → Option V → Prop
  | some d, some v => Rep K M G hs d v
  | none, none => True
  | _, _ => False
theorem RepD.any (k : Key) : ∀ {ds : List (D × D)} {vs : List (Key × V)}, RepD K M G hs ds vs → (ds.any fun p => kEq p.1 (keyD k)) = (vs.any fun p => decide (p.1 = k))
  | [], vs, h => by rw [repD_nil] at h; subst h; rfl
  | (k1, d) :: ds, vs, h => by
    rw [repD_cons] at h
    obtain ⟨k', v, vr, rfl, rfl, h2, h3⟩ := h
    rw [List.any_cons, List.any_cons, RepD.any k h3]
    simp only [kEq_keyD]
theorem RepD.append : ∀ {ds es : List (D × D)} {vs ws : List (Key × V)}, RepD K M G hs ds vs → RepD K M G hs es ws → RepD K M G hs (ds ++ es) (vs ++ ws)
  | [], _, vs, _, h, g => by rw [repD_nil] at h; subst h; exact g
  | (k, d) :: ds, _, vs, _, h, g => by
    rw [repD_cons] at h
    obtain ⟨k', v, vr, rfl, h1, h2, h3⟩ := h
    rw [List.cons_append, List.cons_append, repD_cons]
    exact ⟨k', v, _, rfl, h1, h2, RepD.append h3 g⟩
theorem RepD.drop (k : Key) : ∀ {ds : List (D × D)} {vs : List (Key × V)}, RepD K M G hs ds vs → RepD K M G hs (dropD ds (keyD k)) (dropK vs k)
  | [], vs, h => by rw [repD_nil] at h; subst h; exact repD_nil.mpr rfl
  | (k1, d) :: ds, vs, h => by
    rw [repD_cons] at h
    obtain ⟨k', v, vr, rfl, rfl, h2, h3⟩ := h
    have ih := RepD.drop k h3
    unfold dropD dropK at *
    rw [List.filter_cons, List.filter_cons]
    simp only [kEq_keyD]
    by_cases e : k' = k
    · simpa [e] using ih
    · simp only [e, decide_false, Bool.not_false, if_true, ne_eq, not_false_iff, decide_true]
      exact repD_cons.mpr ⟨k', v, _, rfl, rfl, h2, ih⟩
theorem RepD.get : ∀ {ds : List (D × D)} {vs : List (Key × V)} {i : Nat} {k d : D}, RepD K M G hs ds vs → ds[i]? = some (k, d) → ∃ k' v, vs[i]? = some (k', v) ∧ keyD k' = k ∧ Rep K M G hs d v
  | [], _, _, _, _, _, e => by simp at e
  | (k1, x) :: ds, vs, 0, k, d, h, e => by
    rw [repD_cons] at h
    obtain ⟨k', v, vr, rfl, h1, h2, h3⟩ := h
    simp at e
    obtain ⟨rfl, rfl⟩ := e
    exact ⟨k', v, rfl, h1, h2⟩
  | (k1, x) :: ds, vs, i + 1, k, d, h, e => by
    rw [repD_cons] at h
    obtain ⟨k', v, vr, rfl, h1, h2, h3⟩ := h
    obtain ⟨w, u, h4, h5, h6⟩ := RepD.get (i := i) h3 (by simpa using e)
    exact ⟨w, u, by simpa using h4, h5, h6⟩
/-- a dict that is read -/
theorem RV.dic {kvs : List (D × D)} {v : V} (J : Sim K M G hs s H) (h : RV K M G hs H (.dic kvs) v) : ∃ a l, v = .ref a ∧ Rd H a (.dK l) ∧ RepD K M G hs kvs l := by
  rcases h with h | ⟨a, rfl, l, h1, h2⟩
  · obtain ⟨a, o, l, rfl, h1, h2⟩ := rep_dic.mp h
    exact ⟨a, l, rfl, .inr ⟨o, J.sub _ _ h1⟩, h2⟩
  · exact ⟨a, l, rfl, .inl h1, h2⟩
theorem ORep.some {x : D} {o : Option V} (h : ORep K M G hs (Option.some x) o) : ∃ v, o = Option.some v ∧ Rep K M G hs x v := by
  cases o with
  | none => exact h.elim
  | some v => exact ⟨v, rfl, h⟩
theorem ORep.none {o : Option V} (h : ORep K M G hs Option.none o) : o = Option.none := by
  cases o with
  | none => rfl
  | some v => exact h.elim
theorem ORep.isSome {x : Option D} {o : Option V} (h : ORep K M G hs x o) : o.isSome = x.isSome := by
  cases x with
  | none => rw [h.none]; rfl
  | some d => obtain ⟨v, rfl, _⟩ := h.some; rfl
variable {a b c o e : Expr} {fa fb fc : Env → DS → R D} {pos apos cpos : Pos}
def isKey (d : D) : Bool := (toK d).isSome
def opDix : D → D → Option D
  | .dic kvs, k => if isKey k = true then valD kvs k else none
  | _, _ => none
def get1O : D → D → Option D
  | .dic kvs, k => if isKey k = true then some ((valD kvs k).getD .non) else none
  | _, _ => none
def getD1 (fo fk : Env → DS → R D) : Env → DS → R D := fun η s => (fo η s).bind fun x s1 => if isDic (deref s1 x) = true then (fk η s1).bind fun k s2 => R.ofO (get1O (deref s2 x) (deref s2 k)) s2 else .bad
def get2O : D → D → D → Option D
  | .dic kvs, k, x => if isKey k = true then some ((valD kvs k).getD x) else none
  | _, _, _ => none
def getD2 (fo fk fx : Env → DS → R D) : Env → DS → R D := fun η s => (fo η s).bind fun x s1 => if isDic (deref s1 x) = true then (fk η s1).bind fun k s2 => (fx η s2).bind fun y s3 => R.ofO (get2O (deref s3 x) (deref s3 k) y) s3 else .bad
end
end DL
set_option Elab.async false
set_option linter.all false
set_option maxRecDepth 100000
set_option maxHeartbeats 2000000
namespace DL
open PySem PySem.Spec PyProof.Rows L2
section
variable {M : Mp} {X : Cx} {W : WX} {K : PySem.W.Frag} {a b e : Expr} {es : List Expr} {fa fb : Env → DS → R D} {g : Env → DS → R (List D)} {pos apos cpos p : Pos}
def opDin : D → D → Option D
  | k, .dic kvs => if isKey k = true then some (.bl (valD kvs k).isSome) else none
  | _, _ => none
def opDnin : D → D → Option D
  | k, .dic kvs => if isKey k = true then some (.bl (!(valD kvs k).isSome)) else none
  | _, _ => none
def setDi : D → D → D → Option D
  | k, x, .dic kvs => if isKey k = true ∧ kvs.length < 16777216 then some (.dic (putD kvs k x)) else none
  | _, _, _ => none
def getDi : D → D → Option D
  | k, .dic kvs => if isKey k = true then valD kvs k else none
  | _, _ => none
def dnewD : Env → DS → R D := fun _ s => .ok (.dic []) s
def pairsD : List D → Option (List (D × D))
  | [] => some []
  | .tup [k, v] :: r => if isKey k = true then (pairsD r).map ((k, v) :: ·) else none
  | _ => none
def dictO : List D → Option D
  | [.lst l] => (pairsD l).map fun kvs => .dic (mergeD [] kvs)
  | [.dic kvs] => some (.dic kvs)
  | _ => none
def nilP : Env → DS → R (List (D × D)) := fun _ s => .ok [] s
def consP (fk fv : Env → DS → R D) (g : Env → DS → R (List (D × D))) : Env → DS → R (List (D × D)) := fun η s => (fk η s).bind fun k s1 => if isKey k = true then (fv η s1).bind fun v s2 => (g η s2).bind fun r s3 => .ok ((k, v) :: r) s3 else .bad
def dispD (g : Env → DS → R (List (D × D))) : Env → DS → R D := fun η s => (g η s).bind fun kvs s1 => if kvs.length ≤ 15 then .ok (.dic (mergeD [] kvs)) s1 else .bad
end
end DL
set_option Elab.async false
set_option linter.all false
set_option maxRecDepth 100000
set_option maxHeartbeats 2000000
namespace DL
open PySem PySem.Spec PyProof.Rows L2
def sortD (l : List D) : List D := l.mergeSort fun a b => !ltD b a
def tupsOk (l : List D) : Bool := l.all (fun d => match d with | .tup (_ :: _) => true | _ => false) || l.all (fun d => match d with | .tup _ => false | _ => true)
def sortOk (l : List D) : Bool := likeAll l && decide (l.length ≤ 16777216) && tupsOk l
section
variable {M : Mp} {X : Cx} {W : WX} {K : PySem.W.Frag}
def sortedO : List D → Option D
  | [.lst l] => if sortOk l = true then some (.lst (sortD l)) else none
  | [.dic kvs] => if sortOk (kvs.map (·.1)) = true then some (.lst (sortD (kvs.map (·.1)))) else none
  | _ => none
end
end DL
set_option Elab.async false
set_option linter.all false
set_option maxRecDepth 100000
set_option maxHeartbeats 2000000
namespace DL
open PySem PySem.Spec PyProof.Rows L2
section
variable {M : Mp} {X : Cx} {W : WX} {K : PySem.W.Frag} {G H : Hp} {hs : List Addr} {s : DS} {tg e : Expr} {f : Env → DS → R D} {pos apos cpos p : Pos}
def itmD (q : D × D) : D := .tup [q.1, q.2]
def dicK : D → Option (List D)
  | .dic kvs => some (kvs.map (·.1))
  | _ => none
def dicV : D → Option (List D)
  | .dic kvs => some (kvs.map (·.2))
  | _ => none
def dicI : D → Option (List D)
  | .dic kvs => some (kvs.map itmD)
  | _ => none
def lenDO : List D → Option D
  | [.dic kvs] => some (.int kvs.length)
  | _ => none
def listKO : List D → Option D
  | [.dic kvs] => some (.lst (kvs.map (·.1)))
  | _ => none
end
end DL
set_option Elab.async false
set_option linter.all false
set_option maxRecDepth 100000
set_option maxHeartbeats 4000000
namespace DL
open PySem PySem.Spec PyProof.Rows L2
end DL
set_option Elab.async false
set_option linter.all false
set_option maxRecDepth 100000
set_option maxHeartbeats 4000000
namespace DL
open PySem PySem.Spec PyProof.Rows L2
section
variable {M : Mp} {X : Cx} {W : WX} {e : Expr} {te : TE} {f : Env → DS → R D} {pos apos cpos p : Pos}
def tupIO : D → Option D
  | .dic kvs => some (.tup (kvs.map itmD))
  | _ => none
def dicIO : D → Option D
  | .dic kvs => some (.dic (mergeD [] kvs))
  | _ => none
end
end DL
set_option Elab.async false
set_option linter.all false
set_option maxRecDepth 100000
set_option maxHeartbeats 4000000
namespace DL
open PySem PySem.Spec PyProof.Rows L2
/-- its names: the parameter, captured ones, globals -/
structure LamP (sc scope : Scope) (a : Str) : Prop where
  kind : scope.kind = .function
  co : scope.isCoroutine = false
  gen : scope.isGenerator = false
  own : ∀ y ∈ scope.names, y.2 ≠ .cell ∧ (y.2 = .local → y.1 = a)
  par : scope.names.lookup a = some .local
  free : ∀ y ∈ scope.names, y.2 = .free → sc.names.lookup y.1 = some .cell ∨ sc.names.lookup y.1 = some .free
section
variable {X : Cx} {pins : List (Addr × Obj)} {σ : L2.St} {H : Hp} {s : Shared}
theorem LamP.has {scope : Scope} {a : Str} (L : LamP X.env.scope scope a) (ok : X.Ok) : ∀ y ∈ scope.names, y.2 = .free → ∃ c, X.env.cells.lookup y.1 = some c := fun y hy e => by
  rcases L.free y hy e with k | k
  · exact ok.has _ (.inl k)
  · exact ok.has _ (.inr k)
end
end DL
set_option Elab.async false
set_option linter.all false
set_option maxRecDepth 100000
set_option maxHeartbeats 4000000
namespace DL
open PySem PySem.Spec PyProof.Rows L2
end DL
set_option Elab.async false
set_option linter.all false
set_option maxRecDepth 100000
set_option maxHeartbeats 4000000
namespace DL
open PySem PySem.Spec PyProof.Rows L2
end DL
set_option Elab.async false
set_option linter.all false
set_option maxRecDepth 100000
set_option maxHeartbeats 4000000
namespace DL
open PySem PySem.Spec PyProof.Rows L2
def sortBy (ds ks : List D) : List D := ((ds.zip ks).mergeSort fun a b => !ltD b.2 a.2).map (·.1)
def kOk (ks : List D) : Bool := likeAll ks && tupsOk ks
def sortK (o : D → Option (List D)) (i : Nat) (fb fl : Env → DS → R D) : Env → DS → R D := fun η s => (fl η s).bind fun x s1 => (R.ofO (o (deref s1 x)) s1).bind fun ds s1 => (lcF (gN i) yesT fb η ds s1).bind fun ks s2 => if kOk ks = true then .ok (.lst (sortBy ds ks)) s2 else .bad
end DL
set_option Elab.async false
set_option linter.all false
set_option maxRecDepth 100000
set_option maxHeartbeats 2000000
namespace DL
open PySem PySem.Spec PyProof.Rows L2
section
variable {M : Mp} {X : Cx} {W : WX}
theorem u1 {A : Around} (h : A.units + 64 < cLine) : A.units + 1 < cLine := by omega
end
end DL
set_option Elab.async false
set_option linter.all false
set_option maxRecDepth 100000
set_option maxHeartbeats 2000000
namespace DL
open PySem PySem.Spec PyProof.Rows L2
def rg3L (a c : Int) (n : Nat) : List D := (List.range n).map fun m : Nat => D.int (a + (m : Int) * c)
section
variable {M : Mp} {X : Cx} {W : WX} {K : PySem.W.Frag} {a b c : Expr} {ta : TA} {g : Env → DS → R (List D)} {p p2 pos pos2 : Pos}
def rgaD (o : List D → Option D) (g : Env → DS → R (List D)) : Env → DS → R D := fun η s => (g η s).bind fun ds s1 => R.ofO (o ds) s1
variable {o e : Expr} {to : TE} {t : TA} {apos cpos : Pos} {fo fe f : Env → DS → R D}
def isTup0 : D → Bool | .tup0 _ => true | _ => false
def ix0D (o : D → List D → Option D) (fo : Env → DS → R D) (fa : Env → DS → R (List D)) : Env → DS → R D := fun η s => (fo η s).bind fun x s1 => if isTup0 x = true then (fa η s1).bind fun ds s2 => R.ofO (o x ds) s2 else .bad
def un0 : D → D | .tup0 l => .tup l | d => d
def untD (f : Env → DS → R D) : Env → DS → R D := fun η s => (f η s).bind fun d s1 => .ok (un0 d) s1
def tup0O : List D → Option D
  | [.lst l] => some (.tup0 l)
  | _ => none
end
end DL
set_option Elab.async false
set_option linter.all false
set_option maxRecDepth 100000
set_option maxHeartbeats 2000000
namespace DL
open PySem PySem.Spec PyProof.Rows L2
section
variable {M : Mp} {X : Cx}
def rMinT (X : Cx) (M : Mp) (mn : D → List D → D) : List V → Hp → VK → Prop := fun vs H Q => ∃ (a : Addr) (ws : List V) (G : Hp) (hs : List Addr) (s : DS) (d : D) (ds : List D), vs = [.ref a] ∧ SqT X.K H a ws ∧ Sim X.K M G hs s H ∧ RepL X.K M G hs (d :: ds) ws ∧ likeAll (d :: ds) = true ∧
  ∀ v, Rep X.K M G hs (mn d ds) v → Q v H
theorem cr_minT (hc : X.calm = true) (hu : X.A.units + 64 < cLine) : CallR X (.builtin "min") (rMinT X M minF) := by
  intro pins s σ H vs us Q I r h
  obtain ⟨a, ws, G, hs, st, d, ds, rfl, hl, J, rl, hk, q⟩ := h
  obtain ⟨ok, dp, hal⟩ := likeAll_of hk
  obtain ⟨its, rv, pl, _⟩ := I.tuple hl
  rw [Vals.ref1 r]
  obtain ⟨as, ra⟩ := Dp.readsAll I (toPDL (d :: ds)) ws its (dp_ofL J.sub _ _ ok rl) rv
  have el : toPDL (d :: ds) = toPD d :: ds.map toPD := by rw [toPDL_map, List.map_cons]
  have dd := (lay_toPDL (d :: ds) ok).2
  rw [el] at ra dd
  refine PySem.W.min_tuple_data (I.ok.hd hc) pl ra hal (by rw [dd]; omega) fun i v h' tk bs hv rd hk' => ?_
  rw [← toPD_minF] at rd
  have hv' : its[i]? = some v := by simpa using hv
  obtain ⟨w, hw, rw', rp⟩ := item_is rl rv hv' ok (minF_mem d ds) rd (fun j e w he hw => by
    obtain ⟨cs, h9⟩ := readsAll_get ra j (toPD e) w (by rw [← List.map_cons, List.getElem?_map, he]; rfl) hw
    exact ⟨cs, PyProof.Rows.Reads.keeps hk' h9⟩) hal
  exact ⟨w, H, I.kept (t' := tk) hk', rw', q w rp⟩
def minTO : List D → Option D
  | [.tup (d :: ds)] => if likeAll (d :: ds) = true then some (minF d ds) else none
  | _ => none
def maxTO : List D → Option D
  | [.tup (d :: ds)] => if likeAll (d :: ds) = true then some (maxF d ds) else none
  | _ => none
theorem cd_minT (hc : X.calm = true) (hu : X.A.units + 64 < cLine) : CallD M X (.builtin "min") minTO := by
  refine ⟨_, cr_minT (M := M) hc hu, fun G hs s H ds z vs Q J hv e k => ?_⟩
  unfold minTO at e
  split at e
  · split at e
    · rename_i d ds hk
      cases e
      obtain ⟨v, rfl, h⟩ := hv.one
      obtain ⟨a, ws, rfl, h1, r⟩ := h.tup J
      exact ⟨a, ws, G, hs, s, d, ds, rfl, h1, J, r, hk, fun v hv => k G H (Stp.refl _ _ _ _) J v hv⟩
    · cases e
  · cases e
def isN : D → Bool | .non => true | _ => false
def opIs : D → D → Option D
  | x, .non => some (.bl (isN x))
  | _, _ => none
def opIsNot : D → D → Option D
  | x, .non => some (.bl (!isN x))
  | _, _ => none
end
end DL
set_option Elab.async false
set_option linter.all false
set_option maxRecDepth 100000
set_option maxHeartbeats 2000000
namespace DL
open PySem PySem.Spec PyProof.Rows L2
open Sem (wp)
open AutoSeq1 (wpAny_loadPart')
section
variable {M : Mp} {X : Cx} {W : WX} {K : PySem.W.Frag} {e : Expr} {p pos tpos : Pos} {elts : List Expr} {kk : Nat} {g : Env → DS → R (List D)}
def enumTO : List D → Option (List D)
  | [.tup l] => some (enumL 0 l)
  | _ => none
end
end DL
set_option Elab.async false
set_option linter.all false
set_option maxRecDepth 100000
set_option maxHeartbeats 2000000
namespace DL
open PySem PySem.Spec PyProof.Rows L2
section
variable {η : DL.Env} {s : DS} {f fa fb fc fl fo fk fx : DL.Env → DS → R D} {g : DL.Env → DS → F} {ga : DL.Env → DS → R (List D)} {kvs : List (D × D)} {k x y d : D} {l : List D} {i n : Nat} {a : Int} {z : Str}
theorem deref_tup0 : deref s (.tup0 l) = .tup0 l := rfl
def calmDK (d : D) (s : DS) : R D := if isDic d = true then .ok d s else .bad
theorem calmDD_eq : calmDD f η s = (f η s).bnd calmDK := rfl
theorem calmDK_d : calmDK (.dic kvs) s = .ok (.dic kvs) s := rfl
theorem dnewD_eq : dnewD η s = .ok (.dic []) s := rfl
def frzDK (g : DL.Env → DS → F) (η : DL.Env) (s : DS) (i : Nat) : Option Sl → F
  | some (.o (.dic kvs)) => g (η.set i (.v (.dic kvs))) s
  | _ => .bad
theorem frzDB_eq : frzDB i g η s = frzDK g η s i η[i]? := by
  unfold frzDB
  generalize η[i]? = o
  cases o with
  | none => rfl
  | some x => cases x with
    | o d => cases d <;> rfl
    | _ => rfl
theorem frzDK_d : frzDK g η s i (some (.o (.dic kvs))) = g (η.set i (.v (.dic kvs))) s := rfl
theorem opDix_i : opDix (.dic kvs) (.int a) = valD kvs (.int a) := rfl
theorem opDix_s : opDix (.dic kvs) (.str z) = valD kvs (.str z) := rfl
theorem opDin_i : opDin (.int a) (.dic kvs) = some (.bl (valD kvs (.int a)).isSome) := rfl
theorem opDin_s : opDin (.str z) (.dic kvs) = some (.bl (valD kvs (.str z)).isSome) := rfl
theorem opDnin_i : opDnin (.int a) (.dic kvs) = some (.bl (!(valD kvs (.int a)).isSome)) := rfl
theorem opDnin_s : opDnin (.str z) (.dic kvs) = some (.bl (!(valD kvs (.str z)).isSome)) := rfl
theorem setDi_i (h : kvs.length < 16777216) : setDi (.int a) x (.dic kvs) = some (.dic (putD kvs (.int a) x)) := by
  unfold setDi; exact if_pos ⟨rfl, h⟩
theorem setDi_s (h : kvs.length < 16777216) : setDi (.str z) x (.dic kvs) = some (.dic (putD kvs (.str z) x)) := by
  unfold setDi; exact if_pos ⟨rfl, h⟩
theorem getDi_i : getDi (.int a) (.dic kvs) = valD kvs (.int a) := rfl
theorem getDi_s : getDi (.str z) (.dic kvs) = valD kvs (.str z) := rfl
theorem isDic_d : isDic (.dic kvs) = true := rfl
theorem getD1_eq : getD1 fo fk η s = (fo η s).bnd fun x s1 => if isDic (deref s1 x) = true then (fk η s1).bnd fun k s2 => R.ofO (get1O (deref s2 x) (deref s2 k)) s2 else .bad := rfl
theorem getD2_eq : getD2 fo fk fx η s = (fo η s).bnd fun x s1 => if isDic (deref s1 x) = true then (fk η s1).bnd fun k s2 => (fx η s2).bnd fun y s3 => R.ofO (get2O (deref s3 x) (deref s3 k) y) s3 else .bad := rfl
theorem get1O_i : get1O (.dic kvs) (.int a) = some ((valD kvs (.int a)).getD .non) := rfl
theorem get1O_s : get1O (.dic kvs) (.str z) = some ((valD kvs (.str z)).getD .non) := rfl
theorem get2O_i : get2O (.dic kvs) (.int a) y = some ((valD kvs (.int a)).getD y) := rfl
theorem get2O_s : get2O (.dic kvs) (.str z) y = some ((valD kvs (.str z)).getD y) := rfl
theorem lenDO_d : lenDO [.dic kvs] = some (.int (kvs.length : Nat)) := rfl
theorem listKO_d : listKO [.dic kvs] = some (.lst (kvs.map (·.1))) := rfl
theorem dicK_d : dicK (.dic kvs) = some (kvs.map (·.1)) := rfl
theorem dicV_d : dicV (.dic kvs) = some (kvs.map (·.2)) := rfl
theorem dicI_d : dicI (.dic kvs) = some (kvs.map itmD) := rfl
theorem tupIO_d : tupIO (.dic kvs) = some (.tup (kvs.map itmD)) := rfl
theorem dicIO_d : dicIO (.dic kvs) = some (.dic (mergeD [] kvs)) := rfl
theorem dictO_d : dictO [.dic kvs] = some (.dic kvs) := rfl
theorem nilP_eq : nilP η s = .ok [] s := rfl
theorem consP_eq {gp : DL.Env → DS → R (List (D × D))} : consP fk fx gp η s = (fk η s).bnd fun k s1 => if isKey k = true then (fx η s1).bnd fun v s2 => (gp η s2).bnd fun r s3 => .ok ((k, v) :: r) s3 else .bad := rfl
theorem dispD_eq {gp : DL.Env → DS → R (List (D × D))} : dispD gp η s = (gp η s).bnd fun kvs s1 => if kvs.length ≤ 15 then .ok (.dic (mergeD [] kvs)) s1 else .bad := rfl
theorem isKey_i : isKey (.int a) = true := rfl
theorem isKey_s : isKey (.str z) = true := rfl
theorem opIs_x : opIs x .non = some (.bl (isN x)) := by cases x <;> rfl
theorem opIsNot_x : opIsNot x .non = some (.bl (!isN x)) := by cases x <;> rfl
theorem isN_n : isN .non = true := rfl
theorem isN_i : isN (.int a) = false := rfl
theorem isN_s : isN (.str z) = false := rfl
theorem isN_t : isN (.tup l) = false := rfl
theorem isN_l : isN (.lst l) = false := rfl
theorem untD_eq : untD f η s = (f η s).bnd fun d s1 => .ok (un0 d) s1 := rfl
theorem un0_t : un0 (.tup0 l) = .tup l := rfl
theorem ix0D_eq {o : D → List D → Option D} : ix0D o fo ga η s = (fo η s).bnd fun x s1 => if isTup0 x = true then (ga η s1).bnd fun ds s2 => R.ofO (o x ds) s2 else .bad := rfl
theorem isTup0_t : isTup0 (.tup0 l) = true := rfl
theorem tup0O_l : tup0O [.lst l] = some (.tup0 l) := rfl
theorem rgaD_eq {o : List D → Option D} : rgaD o ga η s = (ga η s).bnd fun ds s1 => R.ofO (o ds) s1 := rfl
theorem minTO_eq : minTO [.tup (d :: l)] = minO [.lst (d :: l)] := rfl
theorem maxTO_eq : maxTO [.tup (d :: l)] = maxO [.lst (d :: l)] := rfl
theorem enumTO_t : enumTO [.tup l] = some (enumL 0 l) := rfl
theorem sortK_eq {o : D → Option (List D)} : sortK o i fb fl η s = (fl η s).bnd fun x s1 => (R.ofO (o (deref s1 x)) s1).bnd fun ds s1 => (lcF (gN i) yesT fb η ds s1).bnd fun ks s2 => if kOk ks = true then .ok (.lst (sortBy ds ks)) s2 else .bad := rfl
end
end DL
set_option Elab.async false
set_option linter.all false
set_option maxRecDepth 100000
set_option maxHeartbeats 2000000
namespace DL
open PySem PySem.Spec PyProof.Rows L2
def bopTD (o : DS → D → D → Option D) (fa fb : Env → DS → R D) : Env → DS → R D := fun η s => (fa η s).bind fun x s1 => (fb η s1).bind fun y s2 => R.ofO (o s2 x y) s2
section
variable {M : Mp} {X : Cx} {W : WX}
variable {a b : Expr} {fa fb : Env → DS → R D} {pos : Pos}
theorem bopTD_eq {o : DS → D → D → Option D} {η : DL.Env} {s : DS} : bopTD o fa fb η s = (fa η s).bnd fun x s1 => (fb η s1).bnd fun y s2 => R.ofO (o s2 x y) s2 := rfl
end
end DL
set_option Elab.async false
set_option linter.all false
set_option maxRecDepth 100000
set_option maxHeartbeats 2000000
namespace DL
open PySem PySem.Spec PyProof.Rows L2
section
variable {M : Mp} {X : Cx} {W : WX} {K : PySem.W.Frag}
/-- two clauses; both at most 4096 long -/
def lc2F (put : D → Env → Option Env) (ft : Env → DS → R Bool) (fi1 : Env → DS → R (List D)) (put1 : D → Env → Option Env) (ft1 : Env → DS → R Bool) (fe : Env → DS → R D) (vs1 : List Nat) (η0 : Env) : List D → DS → R (List D)
  | [], s => .ok [] s
  | d :: ds, s => match put d η0 with
    | none => .bad
    | some η1 => (ft η1 s).nx.bind fun b s1 => if b = true then (fi1 η1 s1).nx.bind fun ds1 s2 => if ds1.length ≤ 4096 then (lcF put1 ft1 fe (wipeE η1 vs1) ds1 s2).bind fun ys s3 => (lc2F put ft fi1 put1 ft1 fe vs1 η0 ds s3).bind fun zs s4 => .ok (ys ++ zs) s4 else .bad else lc2F put ft fi1 put1 ft1 fe vs1 η0 ds s1
def lc2D (fi : Env → DS → R (List D)) (put : D → Env → Option Env) (ft : Env → DS → R Bool) (fi1 : Env → DS → R (List D)) (put1 : D → Env → Option Env) (ft1 : Env → DS → R Bool) (fe : Env → DS → R D) (vs vs1 : List Nat) : Env → DS → R D := fun η s => (fi η s).bind fun ds s1 =>
  if ds.length ≤ 4095 then (lc2F put ft fi1 put1 ft1 fe vs1 (wipeE η vs) ds s1).bind fun ys s2 => .ok (.lst ys) s2 else .bad
/-- an object that no one tracks, younger than all that is one's own, is written -/
theorem Sm.updU {A : Anc} {σ : L2.St} {H G : Hp} {hs : List Addr} {own : Nat → Addr} {η : Env} {s : DS} {p : Addr} {o : HO} (I : Sm K M A σ H G hs own η s) (J : Sim K M G hs s (upd H p o)) (nA : Nt A.H p) (hs1 : ∀ a, a = p → ∀ u, H p = some u → ∀ ps, u ≠ .tbl ps) (ho : ∀ i d, η[i]? = some (.o d) → own i ≠ p) (hp : ∃ u, H p = some u) : Sm K M A σ (upd H p o) G hs own η s where
  sim := J
  stp := ⟨I.stp.gg, I.stp.fr, I.stp.hp, I.stp.hf, fun a u e n t => by
      by_cases z : a = p
      · obtain ⟨ps, q⟩ := nA u (by rw [← z]; exact e)
        exact absurd q (t ps)
      · rw [upd_ne z]; exact I.stp.kp a u e n t, fun a e => by
      by_cases z : a = p
      · rw [z]; exact nA
      · exact I.stp.dm a fun u q => e u (by rw [upd_ne z]; exact q)⟩
  pl := I.pl
  ow := fun i d e => by
    obtain ⟨h1, h2, h3⟩ := I.ow i d e
    exact ⟨h1, RepAt.upd h2 (ho i d e), h3⟩
  inj := I.inj
  el := I.el
  sf := I.sf
end
end DL
set_option Elab.async false
set_option linter.all false
set_option maxRecDepth 100000
set_option maxHeartbeats 2000000
namespace DL
open PySem PySem.Spec PyProof.Rows L2
section
variable {M : Mp} {X : Cx} {W : WX} {K : PySem.W.Frag}
abbrev Tg := D → Env → DS → (Env → DS → F) → F
abbrev Tgs := List D → Env → DS → (Env → DS → F) → F
def seqK (r : F) (k : Env → DS → F) : F := match r with
  | .nx η s => k η s
  | r => r
def gmSub (fp : Env → DS → R Plc) (fi : Env → DS → R D) (u : D → D → D → Option D) : Tg := fun x η s k => (fp η s).toF η fun pl s1 => (fi η s1).toF η fun i s2 => seqK (wrF pl (u i x) η s2) k
def gmN : Tgs := fun ds η s k => match ds with
  | [] => k η s
  | _ => .bad
def gmC (f : Tg) (g : Tgs) : Tgs := fun ds η s k => match ds with
  | d :: r => f d η s fun η1 s1 => g r η1 s1 k
  | [] => .bad
def gmT (n : Nat) (g : Tgs) : Tg := fun d η s k => match d with
  | .tup ds => if ds.length = n then g ds η s k else .bad
  | _ => .bad
def asgmB (f : Tg) (fe : Env → DS → R D) : Env → DS → F := fun η s => (fe η s).toF η fun d s1 => f d η s1 F.nx
end
end DL
set_option Elab.async false
set_option linter.all false
set_option maxRecDepth 100000
set_option maxHeartbeats 2000000
namespace DL
open PySem PySem.Spec PyProof.Rows L2
section
variable {M : Mp} {X : Cx} {W : WX}
def opEqN : D → D → Option D
  | .lst l, .lst [] => some (.bl l.isEmpty)
  | _, _ => none
def opNeN : D → D → Option D
  | .lst l, .lst [] => some (.bl (!l.isEmpty))
  | _, _ => none
def rEqN (K : PySem.W.Frag) (f : Bool → Bool) : R2 := fun x y H Q => ∃ a b vs, x = .ref a ∧ y = .ref b ∧ SqL K H a vs ∧ SqL K H b [] ∧ Q (.bl (f vs.isEmpty)) H
theorem op_eqN (hu : X.A.units < cLine) : OpR X (compareOp .Eq) (rEqN X.K id) := by
  intro pins s σ H x y v u Q I rx ry h
  obtain ⟨a, b, vs, rfl, rfl, h1, h2, q⟩ := h
  obtain rfl : v = Value.ref a := rx
  obtain rfl : u = Value.ref b := ry
  obtain ⟨its, r1, p1, _⟩ := I.list h1
  obtain ⟨its2, r2, p2, _⟩ := I.list h2
  have e2 : its2 = [] := List.length_eq_zero_iff.mp r2.length.symm
  subst e2
  have done : EP X pins σ Q (.bool vs.isEmpty) s := ⟨.bl vs.isEmpty, H, I, rfl, q⟩
  cases vs with
  | nil =>
    have e1 : its = [] := List.length_eq_zero_iff.mp r1.length.symm
    subst e1
    exact SeqAt.RcAt.lists (e := fun _ => true) p1.isList p2.isList rfl hu (fun j h => absurd h (by simp)) _ _ _ _ done
  | cons w vs =>
    refine SeqAt.RcAt.lists_lengths p1.isList p2.isList ?_ hu _ _ _ _ done
    have := r1.length
    simp at this ⊢
    intro z
    rw [z] at this
    simp at this
theorem isEmpty_len {α β : Type} : ∀ {l : List α} {m : List β}, l.length = m.length → m.isEmpty = l.isEmpty
  | [], [], _ => rfl
  | _ :: _, _ :: _, _ => rfl
  | [], _ :: _, h => by cases h
  | _ :: _, [], h => by cases h
theorem od_eqN (hu : X.A.units + 64 < cLine) : OpD M X (compareOp .Eq) opEqN := by
  refine ⟨_, op_eqN (by omega), fun G hs s H x y z v u Q J hx hy e k => ?_⟩
  unfold opEqN at e
  split at e
  · cases e
    obtain ⟨a, vs, rfl, h1, r1⟩ := hx.lst J
    obtain ⟨b, ws, rfl, h2, r2⟩ := hy.lst J
    cases repL_nil.mp r2
    refine ⟨a, b, vs, rfl, rfl, SqL.of h1, SqL.of h2, ?_⟩
    rw [show vs.isEmpty = _ from isEmpty_len r1.length]
    exact k G H (Stp.refl _ _ _ _) J _ (rep_bl.mpr rfl)
  · cases e
theorem opEqN_l {l : List D} : opEqN (.lst l) (.lst []) = some (.bl l.isEmpty) := rfl
theorem opNeN_l {l : List D} : opNeN (.lst l) (.lst []) = some (.bl (!l.isEmpty)) := rfl
end
end DL
set_option Elab.async false
set_option linter.all false
set_option maxRecDepth 100000
set_option maxHeartbeats 2000000
namespace DL
open PySem PySem.Spec PyProof PyProof.Rows L2
section
variable {M : Mp} {X : Cx} {W : WX}
/-- a dict or a text against a text -/
def opEqDs : D → D → Option D
  | .dic _, .str _ => some (.bl false)
  | .str x, .str y => if PyData.strOk x = true ∧ PyData.strOk y = true then some (.bl (x == y)) else none
  | _, _ => none
theorem opEqDs_d {kvs : List (D × D)} {z : Str} : opEqDs (.dic kvs) (.str z) = some (.bl false) := rfl
theorem opEqDs_s {x y : Str} (h : PyData.strOk x = true) (h2 : PyData.strOk y = true) : opEqDs (.str x) (.str y) = some (.bl (x == y)) := if_pos ⟨h, h2⟩
end
end DL
set_option Elab.async false
set_option linter.all false
set_option maxRecDepth 100000
set_option maxHeartbeats 2000000
namespace DL
open PySem PySem.Spec PyProof PyProof.Rows L2
def inOk (x : D) (l : List D) : Bool := dOk x && dOkL l && decide (dDep x ≤ 60)
def inX (x : D) (neg : Bool) (y : D) : Option D := match y with
  | .lst l => if inOk x l = true then some (.bl (if neg then !(l.any fun y => eqB y x) else l.any fun y => eqB y x)) else none
  | .tup l => if inOk x l = true then some (.bl (if neg then !(l.any fun y => eqB y x) else l.any fun y => eqB y x)) else none
  | _ => none
def opInX (x y : D) : Option D := match opIn x y with
  | some d => some d
  | none => inX x false y
def opNinX (x y : D) : Option D := match opNin x y with
  | some d => some d
  | none => inX x true y
section
variable {M : Mp} {X : Cx} {K : PySem.W.Frag}
def rInD (K : PySem.W.Frag) (neg : Bool) : R2 := fun x y H Q => ∃ d ds, Dp K H x d ∧ (Dp K H y (.list ds) ∨ Dp K H y (.tuple ds)) ∧ d.canLay0 = true ∧ PyData.canLayAll0 ds = true ∧ d.depth ≤ 60 ∧ Q (.bl (if neg then !(ds.any fun y => PyData.eqv y d) else ds.any fun y => PyData.eqv y d)) H
theorem op_inD (hu : X.A.units + 64 < cLine) : OpR X (compareOp .In) (rInD X.K false) := by
  intro pins s σ H x y v u Q I rx ry h
  obtain ⟨d, ds, hd, he, c1, c2, c3, q⟩ := h
  obtain ⟨as, r1⟩ := Dp.reads I d x v hd rx
  have hm : min (PyData.depthAll ds) d.depth ≤ d.depth := Nat.min_le_right _ _
  rcases he with he | he
  · obtain ⟨bs, r2⟩ := Dp.reads I _ y u he ry
    exact SeqAt.in_list_reads r2 r1 c2 c1 (by omega) ⟨.bl _, H, I, rfl, q⟩
  · obtain ⟨bs, r2⟩ := Dp.reads I _ y u he ry
    exact SeqAt.in_tuple_reads r2 r1 c2 c1 (by omega) ⟨.bl _, H, I, rfl, q⟩
theorem any_toPD {x : D} (hx : dOk x = true) : ∀ {l : List D}, dOkL l = true → ((toPDL l).any fun y => PyData.eqv y (toPD x)) = l.any fun y => eqB y x
  | [], _ => by simp [toPDL]
  | d :: l, h => by
    have h1 : dOk d = true ∧ dOkL l = true := by simpa [dOkL] using h
    simp only [toPDL, List.any_cons]
    rw [eqv_toPD d x h1.1 hx, any_toPD hx h1.2]
theorem inX_run {neg : Bool} {G : Hp} {hs : List Addr} {s : DS} {H : Hp} {x y z : D} {v u : V} {Q : VK} (J : Sim X.K M G hs s H) (hx : RV X.K M G hs H x v) (hy : RV X.K M G hs H y u) (e : inX x neg y = some z)
    (k : ∀ G' H', Stp M G hs H G' hs H' → Sim X.K M G' hs s H' → ∀ w, Rep X.K M G' hs z w → Q w H') : rInD X.K neg v u H Q := by
  unfold inX at e
  split at e
  · rename_i l
    split at e
    · rename_i h
      cases e
      unfold inOk at h
      simp only [Bool.and_eq_true, decide_eq_true_eq] at h
      obtain ⟨⟨h1, h2⟩, h3⟩ := h
      obtain ⟨a1, a2⟩ := lay_toPD x h1
      obtain ⟨b1, b2⟩ := lay_toPDL l h2
      have hy' := hy.dp J (d := .lst l) (by simpa [dOk] using h2)
      simp only [toPD] at hy'
      refine ⟨toPD x, toPDL l, hx.dp J h1, .inl hy', a1, b1, by omega, ?_⟩
      rw [any_toPD h1 h2]
      exact k G H (Stp.refl _ _ _ _) J _ (rep_bl.mpr rfl)
    · cases e
  · rename_i l
    split at e
    · rename_i h
      cases e
      unfold inOk at h
      simp only [Bool.and_eq_true, decide_eq_true_eq] at h
      obtain ⟨⟨h1, h2⟩, h3⟩ := h
      obtain ⟨a1, a2⟩ := lay_toPD x h1
      obtain ⟨b1, b2⟩ := lay_toPDL l h2
      have hy' := hy.dp J (d := .tup l) (by simpa [dOk] using h2)
      simp only [toPD] at hy'
      refine ⟨toPD x, toPDL l, hx.dp J h1, .inr hy', a1, b1, by omega, ?_⟩
      rw [any_toPD h1 h2]
      exact k G H (Stp.refl _ _ _ _) J _ (rep_bl.mpr rfl)
    · cases e
  · cases e
theorem od_inX (hu : X.A.units + 64 < cLine) : OpD M X (compareOp .In) opInX := by
  obtain ⟨r0, p0, k0⟩ := (od_in (M := M) (X := X)).ex
  refine ⟨_, p0.or (op_inD hu), fun G hs s H x y z v u Q J hx hy e k => ?_⟩
  unfold opInX at e
  split at e
  · rename_i d he
    cases e
    exact .inl (k0 G hs s H _ _ _ v u Q J hx hy he k)
  · exact .inr (inX_run J hx hy e k)
end
/-- what is told apart, or flat -/
theorem inOk_of {x : D} {l : List D} (h : okN 9 x = true) (h2 : okNL 9 l = true) : inOk x l = true := by
  obtain ⟨a, b⟩ := okN_of h
  obtain ⟨c, d⟩ := okNL_of h2
  unfold inOk
  simp only [Bool.and_eq_true, decide_eq_true_eq]
  exact ⟨⟨a, c⟩, by omega⟩
theorem opInX_flt {x : D} {l : List D} (h : flt x l = true) : opInX x (.lst l) = some (.bl (l.any fun y => eqB y x)) ∧ opInX x (.tup l) = some (.bl (l.any fun y => eqB y x)) ∧ opNinX x (.lst l) = some (.bl (!(l.any fun y => eqB y x))) ∧ opNinX x (.tup l) = some (.bl (!(l.any fun y => eqB y x))) := by
  unfold opInX opNinX
  rw [opIn_lst h, opIn_tup h, opNin_lst h, opNin_tup h]
  exact ⟨rfl, rfl, rfl, rfl⟩
theorem opInX_all {x : D} {l : List D} (h : inOk x l = true) : opInX x (.lst l) = some (.bl (l.any fun y => eqB y x)) ∧ opInX x (.tup l) = some (.bl (l.any fun y => eqB y x)) ∧ opNinX x (.lst l) = some (.bl (!(l.any fun y => eqB y x))) ∧ opNinX x (.tup l) = some (.bl (!(l.any fun y => eqB y x))) := by
  by_cases f : flt x l = true
  · exact opInX_flt f
  · have e1 : opIn x (.lst l) = none := by unfold opIn; cases x <;> exact if_neg f
    have e2 : opIn x (.tup l) = none := by unfold opIn; cases x <;> exact if_neg f
    have e3 : opNin x (.lst l) = none := by unfold opNin; cases x <;> exact if_neg f
    have e4 : opNin x (.tup l) = none := by unfold opNin; cases x <;> exact if_neg f
    unfold opInX opNinX
    rw [e1, e2, e3, e4]
    exact ⟨if_pos h, if_pos h, if_pos h, if_pos h⟩
theorem opInX_lst {x : D} {l : List D} (h : okN 9 x = true) (h2 : okNL 9 l = true) : opInX x (.lst l) = some (.bl (l.any fun y => eqB y x)) := (opInX_all (inOk_of h h2)).1
theorem opInX_tup {x : D} {l : List D} (h : okN 9 x = true) (h2 : okNL 9 l = true) : opInX x (.tup l) = some (.bl (l.any fun y => eqB y x)) := (opInX_all (inOk_of h h2)).2.1
theorem opNinX_lst {x : D} {l : List D} (h : okN 9 x = true) (h2 : okNL 9 l = true) : opNinX x (.lst l) = some (.bl (!(l.any fun y => eqB y x))) := (opInX_all (inOk_of h h2)).2.2.1
theorem opNinX_tup {x : D} {l : List D} (h : okN 9 x = true) (h2 : okNL 9 l = true) : opNinX x (.tup l) = some (.bl (!(l.any fun y => eqB y x))) := (opInX_all (inOk_of h h2)).2.2.2
theorem opInX_lstF {x : D} {l : List D} (h : flt x l = true) : opInX x (.lst l) = some (.bl (l.any fun y => eqB y x)) := (opInX_flt h).1
theorem opInX_tupF {x : D} {l : List D} (h : flt x l = true) : opInX x (.tup l) = some (.bl (l.any fun y => eqB y x)) := (opInX_flt h).2.1
theorem opNinX_lstF {x : D} {l : List D} (h : flt x l = true) : opNinX x (.lst l) = some (.bl (!(l.any fun y => eqB y x))) := (opInX_flt h).2.2.1
theorem opNinX_tupF {x : D} {l : List D} (h : flt x l = true) : opNinX x (.tup l) = some (.bl (!(l.any fun y => eqB y x))) := (opInX_flt h).2.2.2
end DL
set_option Elab.async false
set_option linter.all false
set_option maxRecDepth 100000
set_option maxHeartbeats 2000000
namespace DL
open PySem PySem.Spec PyProof.Rows L2
section
variable {M : Mp} {X : Cx} {W : WX}
variable {e : Expr} {g : Env → DS → R (List D)} {p pos tpos : Pos} {elts : List Expr} {kk : Nat}
def enumLO : List D → Option (List D)
  | [.lst l] => some (enumL 0 l)
  | _ => none
theorem enumLO_l {l : List D} : enumLO [.lst l] = some (enumL 0 l) := rfl
end
end DL
set_option Elab.async false
set_option linter.all false
set_option maxRecDepth 100000
set_option maxHeartbeats 4000000
namespace DL
open PySem PySem.Spec PyProof.Rows L2
end DL
set_option Elab.async false
set_option linter.all false
set_option maxRecDepth 100000
set_option maxHeartbeats 2000000
namespace DL
open PySem PySem.Spec PyProof.Rows L2
def F.nox : F → F
  | .ex _ _ _ _ => .bad
  | r => r
def tryB (cs : List Nat) (fb : Env → DS → F) (hs : List (Nat × (Env → DS → F))) : Env → DS → F := fun η s => match fb η s with
  | .ex c p η1 s1 => if cs.contains c = true then (match hs.lookup c with
    | some h => (h η1 s1).nox
    | none => .ex c p η1 s1) else .bad
  | r => r
section
variable {M : Mp} {X : Cx} {W : WX}
def tryK (cs : List Nat) (hs : List (Nat × (Env → DS → F))) (r : F) : F := match r with
  | .ex c p η1 s1 => if cs.contains c = true then (match hs.lookup c with
    | some h => (h η1 s1).nox
    | none => .ex c p η1 s1) else .bad
  | r => r
theorem tryB_eq {cs : List Nat} {fb : Env → DS → F} {hs : List (Nat × (Env → DS → F))} {η : Env} {s : DS} : tryB cs fb hs η s = tryK cs hs (fb η s) := by
  unfold tryB tryK
  cases fb η s <;> rfl
theorem tryK_nx {cs : List Nat} {hs : List (Nat × (Env → DS → F))} {η : Env} {s : DS} : tryK cs hs (.nx η s) = .nx η s := rfl
theorem tryK_rt {cs : List Nat} {hs : List (Nat × (Env → DS → F))} {d : D} {s : DS} : tryK cs hs (.rt d s) = .rt d s := rfl
theorem tryK_ex {cs : List Nat} {hs : List (Nat × (Env → DS → F))} {c : Nat} {p : List D} {η : Env} {s : DS} (h : cs.contains c = true) : tryK cs hs (.ex c p η s) = match hs.lookup c with | some h => (h η s).nox | none => .ex c p η s := if_pos h
theorem nox_rt {d : D} {s : DS} : (F.rt d s).nox = .rt d s := rfl
theorem nox_nx {η : Env} {s : DS} : (F.nx η s).nox = .nx η s := rfl
theorem tryK_ex1 {cs : List Nat} {h : Env → DS → F} {c : Nat} {p : List D} {η : Env} {s : DS} (hc : cs.contains c = true) : tryK cs [(c, h)] (.ex c p η s) = (h η s).nox := by
  rw [tryK_ex hc]
  simp [List.lookup]
theorem tryK_ex0 {cs : List Nat} {h : Env → DS → F} {c c' : Nat} {p : List D} {η : Env} {s : DS} (hc : cs.contains c = true) (hn : (c == c') = false) : tryK cs [(c', h)] (.ex c p η s) = .ex c p η s := by
  rw [tryK_ex hc]
  simp [List.lookup, hn]
end
end DL
set_option Elab.async false
set_option linter.all false
set_option maxRecDepth 100000
set_option maxHeartbeats 2000000
namespace DL
open PySem PySem.Spec PyProof.Rows L2
end DL
set_option Elab.async false
set_option linter.all false
set_option maxRecDepth 100000
set_option maxHeartbeats 2000000
namespace DL
open PySem PySem.Spec PyProof PyProof.Rows L2
def ltX (x y : D) : Option D := match x, y with
  | .tup a, .tup b => if (dOkL a && dOkL b && decide (dDep (.tup a) ≤ 60) && alikeD (.tup a) (.tup b)) = true then some (.bl (ltD (.tup a) (.tup b))) else none
  | _, _ => none
def opLtX (x y : D) : Option D := match opLt x y with
  | some d => some d
  | none => ltX x y
def opGtX (x y : D) : Option D := match opGt x y with
  | some d => some d
  | none => ltX y x
theorem opLtX_int {a b : Int} : opLtX (.int a) (.int b) = some (.bl (decide (a < b))) := rfl
theorem opGtX_int {a b : Int} : opGtX (.int a) (.int b) = some (.bl (decide (b < a))) := rfl
end DL
set_option Elab.async false
set_option linter.all false
namespace DL
open PySem PySem.Spec PyProof PyProof.Rows L2
variable {M : Mp} {X : Cx} {W : WX}
theorem dss_bad {st : List Stmt} : DSs M X W st (fun _ _ => F.bad) := ⟨fun _ _ _ => False, ⟨fun _ _ _ _ _ _ z => z.elim⟩, fun A σ H G hs own η s E I h => h⟩
end DL
set_option Elab.async false
set_option linter.all false
set_option maxRecDepth 100000
set_option maxHeartbeats 2000000
namespace DL
open PySem PySem.Spec PyProof.Rows L2
section
variable {M : Mp} {X : Cx} {W : WX} {K : PySem.W.Frag} {a : Expr} {ta : TA} {g : Env → DS → R (List D)} {p p2 pos pos2 : Pos}
noncomputable def lrg1O : List D → Option D
  | [.int k] => if small62 k = true ∧ k.toNat ≤ 16777216 then some (.lst (rg3L 0 1 k.toNat)) else none
  | _ => none
end
theorem lrg1_is {k : Int} (h : -4611686018427387904 ≤ k ∧ k ≤ 16777216) : lrg1O [.int k] = some (.lst (rngL 0 k.toNat)) := by
  show (if _ then _ else _) = _
  rw [if_pos]
  · unfold rg3L
    rw [rngL_map]
    simp
  · refine ⟨?_, by omega⟩
    unfold small62
    rw [Bool.and_eq_true]
    exact ⟨cl_yes (by omega), cl_yes (by omega)⟩
end DL
set_option Elab.async false
set_option linter.all false
set_option maxRecDepth 100000
set_option maxHeartbeats 2000000
namespace DL
open PySem PySem.Spec PyProof.Rows L2
end DL
set_option Elab.async false
set_option linter.all false
set_option maxRecDepth 100000
set_option maxHeartbeats 4000000
namespace DL
open PySem PySem.Spec PyProof.Rows L2
section
variable {M : Mp} {X : Cx} {W : WX} {e : Expr} {te : TE} {f : Env → DS → R D} {pos apos cpos p : Pos}
def lstIO : D → Option D
  | .dic kvs => some (.lst (kvs.map itmD))
  | _ => none
end
end DL
set_option Elab.async false
set_option linter.all false
set_option maxRecDepth 100000
set_option maxHeartbeats 2000000
namespace DL
open PySem PySem.Spec PyProof.Rows L2
section
variable {M : Mp} {X : Cx} {W : WX} {o e : Expr} {es : List Expr} {ta : TE} {t : TA} {m : Str} {pos apos : Pos} {fo : Env → DS → R D} {fa : Env → DS → R (List D)}
def tMethS (C : Addr) (m : Str) (sp : Sp) (E : L2.St → XK) (ta : TE) (t : TA) : TE := fun σ H Q => ta σ H fun x H1 => ∃ (a dx : Addr) (fs : List (Str × V)), x = .ref a ∧ H1 a = some (.ins C dx fs) ∧ fs.lookup m = none ∧ t σ H1 fun vs H2 => sp (.ref a :: vs) H2 Q (E σ)
theorem pe_methT {CX : CXT} {k : Nat} {f C : Addr} {fd : FuncData} {ps : List Str} {sp : Sp} {E : L2.St → XK} {pl : Sem Bool} (he : PE X o ta) (c : Cls X.K C) (hm : Meth X.K C m f) (F : FnOk X.prog X.w X.K X.mg X.base CX k f fd ps sp) (hr : Room k X.A) (hb : Binds X.K fd ps []) (hx : ∀ σ, PassesAt CX X σ (E σ)) (ha : PA X (e :: es) t)
    (hst : starEach (e :: es) X.env = (false, eval e X.env) :: starEach es X.env := by rfl) (hpl : (backTo pos (starEach es X.env)).any (·.1) = false := by rfl)
    (ht : eval (.Call (.Attribute o m apos) (e :: es) [] pos) X.env = (do
      let ov ← eval o X.env
      standAt apos.atName
      let (f, first) ← holding [ov] (getMethod ov m pl)
      callWith pos f first (backTo pos (starEach (e :: es) X.env)) (backToKw pos (keywordEach [] X.env))) := by rfl) :
    PE X (.Call (.Attribute o m apos) (e :: es) [] pos) (tMethS C m sp E ta t) := by
  refine ⟨fun pins s σ H Q I h => ?_⟩
  refine PySem.W.methodCall_KW (pl := pl) (thn (he.run pins s σ H _ I h) fun u s1 ⟨x, H1, I1, rx, a, dx, fs, ex, ea, l, q⟩ => ?_) ht
  subst ex
  obtain rfl : u = Value.ref a := rx
  refine getmeth_ok I1 ea c hm l ?_
  refine PySem.W.callWith_K (first := [.ref a]) (h₀ := X.base) I.ok.mod.kin hm.kp (thn (ha.run pos pins s1 σ H1 _ I1 q) fun us s2 ⟨vs, H2, I2, r, q2⟩ => ⟨I2.kIn, ?_⟩) hst hpl
  exact run_fnS (us := .ref a :: us) (vs := .ref a :: vs) F hr hb (hx σ) I2 (.cons rfl r) q2
theorem pe_methT0 {CX : CXT} {k : Nat} {f C : Addr} {fd : FuncData} {ps : List Str} {sp : Sp} {E : L2.St → XK} {pl : Sem Bool} (he : PE X o ta) (c : Cls X.K C) (hm : Meth X.K C m f) (F : FnOk X.prog X.w X.K X.mg X.base CX k f fd ps sp) (hr : Room k X.A) (hb : Binds X.K fd ps []) (hx : ∀ σ, PassesAt CX X σ (E σ))
    (ht : eval (.Call (.Attribute o m apos) [] [] pos) X.env = (do
      let ov ← eval o X.env
      standAt apos.atName
      let (f, first) ← holding [ov] (getMethod ov m pl)
      callWith pos f first (backTo pos (starEach [] X.env)) (backToKw pos (keywordEach [] X.env))) := by rfl) :
    PE X (.Call (.Attribute o m apos) [] [] pos) (tMethS C m sp E ta tNil) := by
  refine ⟨fun pins s σ H Q I h => ?_⟩
  refine PySem.W.methodCall_KW (pl := pl) (thn (he.run pins s σ H _ I h) fun u s1 ⟨x, H1, I1, rx, a, dx, fs, ex, ea, l, q⟩ => ?_) ht
  subst ex
  obtain rfl : u = Value.ref a := rx
  refine getmeth_ok I1 ea c hm l ?_
  exact PySem.W.callWith_K0 (first := [.ref a]) I1.kIn hm.kp (run_fnS (us := [.ref a]) (vs := [.ref a]) F hr hb (hx σ) I1 (.cons rfl .nil) q)
theorem de_methT {pl : Sem Bool} {k c : Nat} {f : Addr} {fd : FuncData} {ps : List Str} {n : Nat} {g : List D → DS → R D} (F : FnOk X.prog X.w X.K X.mg X.base (L2.CX X.prog X.w) k f fd ps (SpD X.K M n g)) (hb : Binds X.K fd ps []) (C : ClsOk X.K M c) (hme : Meth X.K (M.cls c) m f) (hr : Room k X.A) (tk : Takes X W) (ho : DE M X W o fo) (ha : DA M X W (e :: es) fa)
    (hn : (M.flds c).contains m = false := by rfl) (hst : starEach (e :: es) X.env = (false, eval e X.env) :: starEach es X.env := by rfl) (hpl : (backTo pos (starEach es X.env)).any (·.1) = false := by rfl)
    (ht : eval (.Call (.Attribute o m apos) (e :: es) [] pos) X.env = (do
      let ov ← eval o X.env
      standAt apos.atName
      let (f, first) ← holding [ov] (getMethod ov m pl)
      callWith pos f first (backTo pos (starEach (e :: es) X.env)) (backToKw pos (keywordEach [] X.env))) := by rfl) :
    DE M X W (.Call (.Attribute o m apos) (e :: es) [] pos) (methD c (gateD n g) fo fa) := by
  obtain ⟨t, pt, h⟩ := ho.ex
  obtain ⟨ta, pa, ka⟩ := ha.ex
  refine ⟨_, pe_methT (pl := pl) pt C.cl hme F hr hb (fun σ => passAt tk σ) pa hst hpl ht, fun A σ H G hs own η s Q I hp => ?_⟩
  refine h A σ H G hs own η s _ I (hp.bind.mono fun d G1 hs1 s1 H1 S1 J1 h1 v hv => ?_)
  split at h1
  · rename_i hc
    obtain ⟨a, dx, fs, rfl, e1, e2⟩ := isC_at J1 hn hv hc
    refine ⟨a, dx, fs, rfl, e1, e2, ?_⟩
    refine ka A σ H1 G1 hs1 own η s1 _ (I.step S1 J1) (h1.bind.mono fun ds G2 hs2 s2 H2 S2 J2 h2 vs hvs => ?_)
    exact spd_of (fun _ _ _ z => z) J2 (repL_cons.mpr ⟨_, _, rfl, hv.mono S2.gg S2.hp, hvs⟩) h2
  · exact h1.elim
theorem de_methT0 {pl : Sem Bool} {k c : Nat} {f : Addr} {fd : FuncData} {ps : List Str} {n : Nat} {g : List D → DS → R D} (F : FnOk X.prog X.w X.K X.mg X.base (L2.CX X.prog X.w) k f fd ps (SpD X.K M n g)) (hb : Binds X.K fd ps []) (C : ClsOk X.K M c) (hme : Meth X.K (M.cls c) m f) (hr : Room k X.A) (tk : Takes X W) (ho : DE M X W o fo)
    (hn : (M.flds c).contains m = false := by rfl)
    (ht : eval (.Call (.Attribute o m apos) [] [] pos) X.env = (do
      let ov ← eval o X.env
      standAt apos.atName
      let (f, first) ← holding [ov] (getMethod ov m pl)
      callWith pos f first (backTo pos (starEach [] X.env)) (backToKw pos (keywordEach [] X.env))) := by rfl) :
    DE M X W (.Call (.Attribute o m apos) [] [] pos) (methD c (gateD n g) fo nilA) := by
  obtain ⟨t, pt, h⟩ := ho.ex
  obtain ⟨ta, pa, ka⟩ := (da_nil (M := M) (X := X) (W := W)).ex
  refine ⟨_, pe_methT0 (pl := pl) pt C.cl hme F hr hb (fun σ => passAt tk σ) ht, fun A σ H G hs own η s Q I hp => ?_⟩
  refine h A σ H G hs own η s _ I (hp.bind.mono fun d G1 hs1 s1 H1 S1 J1 h1 v hv => ?_)
  split at h1
  · rename_i hc
    obtain ⟨a, dx, fs, rfl, e1, e2⟩ := isC_at J1 hn hv hc
    refine ⟨a, dx, fs, rfl, e1, e2, ?_⟩
    exact spd_of (fun _ _ _ z => z) J1 (repL_cons.mpr ⟨_, _, rfl, hv, repL_nil.mpr rfl⟩) h1
  · exact h1.elim
end
end DL
set_option Elab.async false
set_option linter.all false
set_option maxRecDepth 100000
set_option maxHeartbeats 2000000
namespace PySem.SeqAt
open AutoSeq1 (wpAny_loadPart')
open MeetsSeq MeetsSeq2 MeetsSeq3 SeqRoads2
end PySem.SeqAt
namespace DL
open PySem PySem.Spec PyProof.Rows L2
end DL
set_option Elab.async false
set_option linter.all false
set_option maxRecDepth 100000
set_option maxHeartbeats 4000000
namespace DL
open PySem PySem.Spec PyProof.Rows L2
end DL
set_option Elab.async false
set_option linter.all false
set_option maxRecDepth 100000
set_option maxHeartbeats 4000000
namespace DL
open PySem PySem.Spec PyProof.Rows L2
section
variable {M : Mp} {X : Cx} {W : WX} {e : Expr} {te : TE} {f : Env → DS → R D} {pos apos cpos p : Pos}
local instance : Inhabited D := ⟨.non⟩
variable {a : Expr} {fa : Env → DS → R D}
end
end DL
set_option Elab.async false
set_option linter.all false
set_option maxRecDepth 100000
set_option maxHeartbeats 4000000
namespace DL
open PySem PySem.Spec PyProof.Rows L2
end DL
set_option Elab.async false
set_option linter.all false
set_option maxRecDepth 100000
set_option maxHeartbeats 4000000
namespace DL
open PySem PySem.Spec PyProof.Rows L2
end DL
set_option Elab.async false
set_option linter.all false
set_option maxRecDepth 100000
set_option maxHeartbeats 4000000
namespace DL
open PySem PySem.Spec PyProof.Rows L2
section
variable {M : Mp} {X : Cx} {W : WX}
def slU : D → D → D → D → Option D
  | .int a, .int c, .lst ys, .lst ds => if 0 ≤ a ∧ a ≤ c ∧ c ≤ ds.length ∧ ds.length + ys.length ≤ 16777216 then some (.lst (ds.take a.toNat ++ ys ++ ds.drop c.toNat)) else none
  | _, _, _, _ => none
def slB (fe : Env → DS → R D) (fp : Env → DS → R Plc) (fa fb : Env → DS → R D) : Env → DS → F := fun η s => (fe η s).toF η fun x s1 => (fp η s1).toF η fun pl s2 => (fa η s2).toF η fun i s3 => (fb η s3).toF η fun j s4 => wrF pl (slU i j x) η s4
end
end DL
set_option Elab.async false
set_option linter.all false
set_option maxRecDepth 100000
set_option maxHeartbeats 4000000
namespace DL
open PySem PySem.Spec PyProof.Rows L2
section
variable {M : Mp} {X : Cx} {W : WX} {e : Expr} {te : TE} {f : Env → DS → R D} {pos apos mpos cpos p : Pos}
def gmG (g : D → Env → Option Env) : Tg := fun d η s k => match g d η with
  | some η' => k η' s
  | none => .bad
end
end DL
set_option Elab.async false
set_option linter.all false
set_option maxRecDepth 100000
set_option maxHeartbeats 4000000
namespace DL
open PySem PySem.Spec PyProof PyProof.Rows L2
end DL
namespace DL
open PySem PySem.Spec PyProof.Rows L2
section
variable {M : Mp} {X : Cx} {W : WX}
theorem RV.ins {K : PySem.W.Frag} {G H : Hp} {hs : List Addr} {s : DS} {c : Nat} {ds : List D} {v : V} (J : Sim K M G hs s H) (h : RV K M G hs H (.obj c ds) v) : ∃ a dx fs, v = .ref a ∧ H a = some (.ins (M.cls c) dx fs) := by
  rcases h with h | ⟨a, rfl, dx, fs, h1, h2⟩
  · obtain ⟨a, dx, fs, rfl, h1, h2, h3⟩ := rep_obj.mp h
    exact ⟨a, dx, fs, rfl, J.sub _ _ h1⟩
  · exact ⟨a, dx, fs, rfl, h1⟩
/-- an object of the class or a text against a text -/
def opEqO (c : Nat) : D → D → Option D
  | .obj c' _, .str _ => if c' = c then some (.bl false) else none
  | .str x, .str y => if PyData.strOk x = true ∧ PyData.strOk y = true then some (.bl (x == y)) else none
  | _, _ => none
def opNeO (c : Nat) : D → D → Option D
  | .obj c' _, .str _ => if c' = c then some (.bl true) else none
  | .str x, .str y => if PyData.strOk x = true ∧ PyData.strOk y = true then some (.bl (!(x == y))) else none
  | _, _ => none
theorem opEqO_o {c : Nat} {ds : List D} {z : Str} : opEqO c (.obj c ds) (.str z) = some (.bl false) := if_pos rfl
theorem opNeO_o {c : Nat} {ds : List D} {z : Str} : opNeO c (.obj c ds) (.str z) = some (.bl true) := if_pos rfl
theorem opEqO_s {c : Nat} {x y : Str} (h : PyData.strOk x = true) (h2 : PyData.strOk y = true) : opEqO c (.str x) (.str y) = some (.bl (x == y)) := if_pos ⟨h, h2⟩
theorem opNeO_s {c : Nat} {x y : Str} (h : PyData.strOk x = true) (h2 : PyData.strOk y = true) : opNeO c (.str x) (.str y) = some (.bl (!(x == y))) := if_pos ⟨h, h2⟩
end
end DL
set_option Elab.async false
set_option linter.all false
set_option maxRecDepth 100000
set_option maxHeartbeats 2000000
namespace DL
open PySem PySem.Spec PyProof.Rows L2
def popSet (i : Nat) (pl : Plc) (d : D) (ds : List D) (η : Env) (s : DS) : F := match pl with
  | .slot j => setF (η.set j (.o (.lst ds))) i d s
  | .han k => setF η i d (s.set k (.lst ds))
def popM (i : Nat) (pl : Plc) (η : Env) (s : DS) : List D → Option D → F
  | [.int 0], some (.lst (d :: ds)) => popSet i pl d ds η s
  | _, _ => .bad
def popK (i : Nat) (pl : Plc) (as : List D) (η : Env) (s : DS) : F := popM i pl η s as (plcD pl η s)
def popB (i : Nat) (fp : Env → DS → R Plc) (fa : Env → DS → R (List D)) : Env → DS → F := fun η s => (fp η s).toF η fun pl s1 => match plcD pl η s1 with
  | some d0 => if isLst d0 = true then (fa η s1).toF η fun as s2 => popK i pl as η s2 else .bad
  | none => .bad
end DL
set_option Elab.async false
set_option linter.all false
set_option maxRecDepth 100000
set_option maxHeartbeats 2000000
namespace DL
open PySem PySem.Spec PyProof.Rows L2
section
variable {M : Mp} {X : Cx} {W : WX} {K : PySem.W.Frag}
def sortTO : List D → Option D
  | [.tup l] => if l.all isKey = true ∧ sortOk l = true then some (.lst (sortD l)) else none
  | _ => none
end
end DL
set_option Elab.async false
set_option linter.all false
set_option maxRecDepth 100000
set_option maxHeartbeats 2000000
namespace DL
open PySem PySem.Spec PyProof.Rows L2
def revO : D → Option (List D)
  | .tup l => some l.reverse
  | _ => none
section
variable {M : Mp} {X : Cx} {W : WX} {K : PySem.W.Frag}
/-- a list or a tuple -/
def sqO : D → Option (List D)
  | .scr l => some (l.map D.int)
  | .lst l => some l
  | .tup l => some l
  | _ => none
theorem di_seq {tg e : Expr} {f : Env → DS → R D} (h : DE M X W e f) : DI M X W tg e (iterD sqO f) := by
  obtain ⟨w1, p1, k1⟩ := (di_list (tg := tg) h).ex
  obtain ⟨w2, p2, k2⟩ := (di_tup (tg := tg) h).ex
  refine ⟨fun σ H R => w1 σ H R ∨ w2 σ H R, ⟨fun pins s σ H R I hw => hw.elim (p1.run pins s σ H R I) (p2.run pins s σ H R I)⟩, fun A σ H G hs own η s Q I r => ?_⟩
  cases e1 : f η s with
  | bad =>
    refine .inl (k1 A σ H G hs own η s Q I ?_)
    unfold iterD at r ⊢
    rw [e1] at r ⊢
    exact r
  | ex c p s1 =>
    refine .inl (k1 A σ H G hs own η s Q I ?_)
    unfold iterD at r ⊢
    rw [e1] at r ⊢
    exact r
  | ok d s1 =>
    cases d with
    | tup l =>
      refine .inr (k2 A σ H G hs own η s Q I ?_)
      unfold iterD at r ⊢
      rw [e1] at r ⊢
      exact r
    | _ =>
      refine .inl (k1 A σ H G hs own η s Q I ?_)
      unfold iterD at r ⊢
      rw [e1] at r ⊢
      exact r
end
end DL
set_option Elab.async false
set_option linter.all false
set_option maxRecDepth 100000
set_option maxHeartbeats 2000000
namespace DL
open PySem PySem.Spec PyProof.Rows L2
end DL
set_option Elab.async false
set_option linter.all false
set_option maxRecDepth 100000
set_option maxHeartbeats 2000000
namespace DL
open PySem PySem.Spec PyProof.Rows L2
def conL (p : D → Value → Bool) : List D → List Value → Bool
  | [], [] => true
  | d :: ds, u :: us => p d u && conL p ds us
  | _, _ => false
def conB (K : PySem.W.Frag) : Nat → D → Value → Bool
  | 0, _, _ => false
  | n + 1, d, u => match d, u with
    | .int i, .int j _ => decide (i = j)
    | .str x, .str y _ => decide (x = y)
    | .tup ds, .ref a => (match K.lookup a with
      | some o => (match o.cls, o.data with
        | .type T, .seq its _ => decide (T = "tuple") && decide (its.size ≤ 1000) && conL (conB K n) ds its.toList
        | _, _ => false)
      | none => false)
    | _, _ => false
theorem con_rep {K : PySem.W.Frag} {M : Mp} (hr : M.raw = false) : ∀ (n : Nat) (d : D) (u : Value), conB K n d u = true → ∃ v, RelV v u ∧ ∀ G hs, Rep K M G hs d v
  | 0, _, _, h => by cases h
  | n + 1, d, u, h => by
    have lst : ∀ (ds : List D) (us : List Value), conL (conB K n) ds us = true → ∃ vs, Vals vs us ∧ ∀ G hs, RepL K M G hs ds vs := by
      intro ds
      induction ds with
      | nil =>
        intro us h
        cases us with
        | nil => exact ⟨[], .nil, fun _ _ => repL_nil.mpr rfl⟩
        | cons u us => cases h
      | cons d ds ih =>
        intro us h
        cases us with
        | nil => cases h
        | cons u us =>
          unfold conL at h
          rw [Bool.and_eq_true] at h
          obtain ⟨v, r1, r2⟩ := con_rep hr n d u h.1
          obtain ⟨vs, k1, k2⟩ := ih us h.2
          exact ⟨v :: vs, .cons r1 k1, fun G hs => repL_cons.mpr ⟨v, vs, rfl, r2 G hs, k2 G hs⟩⟩
    unfold conB at h
    split at h
    · rename_i i j t
      have e := of_decide_eq_true h
      subst e
      exact ⟨.int i, ⟨t, rfl⟩, fun G hs => rep_int.mpr rfl⟩
    · rename_i x y t
      have e := of_decide_eq_true h
      subst e
      exact ⟨.str x, ⟨t, rfl⟩, fun G hs => rep_str.mpr rfl⟩
    · rename_i ds a
      split at h
      · rename_i o ho
        split at h
        · rename_i T its m ec ed
          rw [Bool.and_eq_true, Bool.and_eq_true] at h
          obtain ⟨⟨h1, h2⟩, h3⟩ := h
          have h1 := of_decide_eq_true h1
          have h2 := of_decide_eq_true h2
          obtain ⟨vs, k1, k2⟩ := lst ds its.toList h3
          have hs : its.size ≤ sizeLine := by rw [sizeLine_eq]; omega
          exact ⟨.ref a, rfl, fun G hs2 => rep_tupq.mpr ⟨a, vs, rfl, .loose hr (.inr ⟨o, its, m, ho, by rw [ec, h1], ed, hs, k1⟩), k2 G hs2⟩⟩
        · cases h
      · cases h
    · cases h
end DL
set_option Elab.async false
set_option linter.all false
set_option maxRecDepth 100000
set_option maxHeartbeats 4000000
namespace DL
open PySem PySem.Spec PyProof.Rows L2
end DL
set_option Elab.async false
set_option linter.all false
set_option maxRecDepth 100000
set_option maxHeartbeats 2000000
namespace DL
open PySem PySem.Spec PyProof.Rows L2
section
variable {M : Mp} {X : Cx} {W : WX} {K : PySem.W.Frag}
def popU : List D → D → Option D
  | [.int 0], .lst (_ :: ds) => some (.lst ds)
  | _, _ => none
end
end DL
set_option Elab.async false
set_option linter.all false
set_option maxRecDepth 100000
set_option maxHeartbeats 4000000
namespace DL
open PySem PySem.Spec PyProof.Rows L2
section
variable {M : Mp} {X : Cx} {W : WX}
def conN (K : PySem.W.Frag) (a : Addr) : Bool := match K.lookup a with
  | some o => o.dict.isNone
  | none => false
def conDicD (ds : List D) : Env → DS → R D := fun _ s => R.ofO ((pairsD ds).map fun kvs => D.dic (mergeD [] kvs)) s
end
end DL
set_option Elab.async false
set_option linter.all false
set_option maxRecDepth 100000
set_option maxHeartbeats 4000000
namespace DL
open PySem PySem.Spec PyProof.Rows L2
end DL
set_option Elab.async false
set_option linter.all false
set_option maxRecDepth 100000
set_option maxHeartbeats 2000000
namespace DL
open PySem PySem.Spec PyProof.Rows L2
end DL
set_option Elab.async false
set_option linter.all false
set_option maxRecDepth 100000
set_option maxHeartbeats 2000000
namespace DL
open PySem PySem.Spec PyProof.Rows L2
end DL
set_option Elab.async false
set_option linter.all false
set_option maxRecDepth 100000
set_option maxHeartbeats 2000000
namespace DL
open PySem PySem.Spec PyProof.Rows L2
open PySem.Sem (wp)
open RZ
/-- zip(t, l): a tuple and a list -/
def zipMO : List D → Option (List D)
  | [.tup l, .lst m] => some (zipL l m)
  | _ => none
theorem zipMO_tl {l m : List D} : zipMO [.tup l, .lst m] = some (zipL l m) := rfl
end DL
set_option Elab.async false
set_option linter.all false
set_option maxRecDepth 100000
set_option maxHeartbeats 2000000
namespace DL
open PySem PySem.Spec PyProof.Rows L2
section
variable {M : Mp} {X : Cx} {W : WX}
def indexTO (l : List D) : List D → Option D
  | [d] => if eqOk (.lst l) d = true then (l.findIdx? fun y => eqB y d).map fun j => .int (j : Nat) else none
  | _ => none
def conIxD (l : List D) (g : Env → DS → R (List D)) : Env → DS → R D := fun η s => (g η s).bind fun ds s1 => R.ofO (indexTO l (ds.map (deref s1))) s1
end
theorem conIxD_eq {l : List D} {g : Env → DS → R (List D)} {η : Env} {s : DS} : conIxD l g η s = (g η s).bnd fun ds s1 => R.ofO (indexTO l (ds.map (deref s1))) s1 := rfl
end DL
set_option Elab.async false
set_option linter.all false
set_option maxRecDepth 100000
set_option maxHeartbeats 2000000
namespace DL
open PySem PySem.Spec PyProof.Rows L2
abbrev keyT (k : List Key) : D := .tup (k.map keyD)
def toKL : List D → Option (List Key)
  | [] => some []
  | d :: l => match toK d, toKL l with
    | some k, some r => some (k :: r)
    | _, _ => none
def toKT : D → Option (List Key)
  | .tup l => toKL l
  | _ => none
theorem toKL_map : ∀ k : List Key, toKL (k.map keyD) = some k
  | [] => rfl
  | a :: k => by rw [List.map_cons, toKL, toK_keyD, toKL_map k]
theorem toKT_key (k : List Key) : toKT (keyT k) = some k := toKL_map k
def isKeyT (d : D) : Bool := (toKT d).isSome
/-- keys alike -/
def kEqT (a b : D) : Bool := decide (toKT a = toKT b)
theorem kEqT_key (a b : List Key) : kEqT (keyT a) (keyT b) = decide (a = b) := by
  unfold kEqT
  rw [toKT_key, toKT_key]
  simp
def valT (kvs : List (D × D)) (k : D) : Option D := (kvs.find? fun p => kEqT p.1 k).map (·.2)
def putT (kvs : List (D × D)) (k v : D) : List (D × D) := if (kvs.any fun p => kEqT p.1 k) = true then kvs.map (fun p => if kEqT p.1 k = true then (p.1, v) else p) else kvs ++ [(k, v)]
section
variable {K : PySem.W.Frag} {M : Mp} {G G' H : Hp} {hs : List Addr} {s : DS}
theorem repT_nil {vs : List (List Key × V)} : RepT K M G hs [] vs ↔ vs = [] := by unfold RepT; rfl
theorem repT_cons {k d : D} {ds : List (D × D)} {vs : List (List Key × V)} : RepT K M G hs ((k, d) :: ds) vs ↔ ∃ k' v vr, vs = (k', v) :: vr ∧ keyT k' = k ∧ Rep K M G hs d v ∧ RepT K M G hs ds vr := by
  constructor
  · intro h; unfold RepT at h; exact h
  · intro h; unfold RepT; exact h
theorem RepT.length : ∀ {ds : List (D × D)} {vs : List (List Key × V)}, RepT K M G hs ds vs → ds.length = vs.length
  | [], vs, h => by rw [repT_nil] at h; subst h; rfl
  | (k, d) :: ds, vs, h => by
    rw [repT_cons] at h
    obtain ⟨k', v, vr, rfl, _, _, h3⟩ := h
    simp [RepT.length h3]
theorem RepT.any (k : List Key) : ∀ {ds : List (D × D)} {vs : List (List Key × V)}, RepT K M G hs ds vs → (ds.any fun p => kEqT p.1 (keyT k)) = (vs.any fun p => decide (p.1 = k))
  | [], vs, h => by rw [repT_nil] at h; subst h; rfl
  | (k1, d) :: ds, vs, h => by
    rw [repT_cons] at h
    obtain ⟨k', v, vr, rfl, rfl, h2, h3⟩ := h
    rw [List.any_cons, List.any_cons, RepT.any k h3]
    simp only [kEqT_key]
theorem RepT.append : ∀ {ds es : List (D × D)} {vs ws : List (List Key × V)}, RepT K M G hs ds vs → RepT K M G hs es ws → RepT K M G hs (ds ++ es) (vs ++ ws)
  | [], _, vs, _, h, g => by rw [repT_nil] at h; subst h; exact g
  | (k, d) :: ds, _, vs, _, h, g => by
    rw [repT_cons] at h
    obtain ⟨k', v, vr, rfl, h1, h2, h3⟩ := h
    rw [List.cons_append, List.cons_append, repT_cons]
    exact ⟨k', v, _, rfl, h1, h2, RepT.append h3 g⟩
theorem RV.dit {kvs : List (D × D)} {v : V} (J : Sim K M G hs s H) (h : RV K M G hs H (.dit kvs) v) : ∃ a l, v = .ref a ∧ Rd H a (.dT l) ∧ RepT K M G hs kvs l := by
  rcases h with h | ⟨a, rfl, l, h1, h2⟩
  · obtain ⟨a, o, l, rfl, h1, h2⟩ := rep_dit.mp h
    exact ⟨a, l, rfl, .inr ⟨o, J.sub _ _ h1⟩, h2⟩
  · exact ⟨a, l, rfl, .inl h1, h2⟩
end
section
variable {M : Mp} {X : Cx} {W : WX} {K : PySem.W.Frag} {a b e : Expr} {fa fb : Env → DS → R D} {pos p : Pos}
def opTin : D → D → Option D
  | k, .dit kvs => if isKeyT k = true then some (.bl (valT kvs k).isSome) else none
  | _, _ => none
def opTnin : D → D → Option D
  | k, .dit kvs => if isKeyT k = true then some (.bl (!(valT kvs k).isSome)) else none
  | _, _ => none
def opTix : D → D → Option D
  | .dit kvs, k => if isKeyT k = true then valT kvs k else none
  | _, _ => none
def setTi : D → D → D → Option D
  | k, x, .dit kvs => if isKeyT k = true ∧ kvs.length < 16777216 then some (.dit (putT kvs k x)) else none
  | _, _, _ => none
end
end DL
set_option Elab.async false
set_option linter.all false
set_option maxRecDepth 100000
set_option maxHeartbeats 2000000
namespace DL
open PySem PySem.Spec PyProof.Rows L2
section
variable {M : Mp} {X : Cx} {W : WX} {a b : Expr} {fa fb : Env → DS → R D} {pos : Pos}
def pair1T (fk fv : Env → DS → R D) : Env → DS → R (D × D) := fun η s => (fk η s).bind fun k s1 => if isKeyT k = true then (fv η s1).bind fun v s2 => .ok (k, v) s2 else .bad
def disp1T (fk fv : Env → DS → R D) : Env → DS → R D := fun η s => (pair1T fk fv η s).bind fun kv s1 => .ok (.dit [kv]) s1
end
end DL
set_option Elab.async false
set_option linter.all false
set_option maxRecDepth 100000
set_option maxHeartbeats 2000000
namespace DL
open PySem PySem.Spec PyProof.Rows L2
/-- each key's first place -/
def insA (acc : List (List Key × Addr)) (x : List Key × Addr) : List (List Key × Addr) := if (acc.any fun y => decide (y.1 = x.1)) = true then acc else acc ++ [x]
def insT (acc : List D) (k : D) : List D := if (acc.any fun y => kEqT y k) = true then acc else acc ++ [k]
def keysT : List D → Option (List D)
  | [] => some []
  | .tup [k, _] :: r => if isKeyT k = true then (keysT r).map (k :: ·) else none
  | _ => none
/-- the keys of dict(l), each at its first place -/
def dkT : List D → Option (List D)
  | [.lst l] => (keysT l).map fun ks => ks.foldl insT []
  | _ => none
section
variable {M : Mp} {X : Cx} {W : WX} {K : PySem.W.Frag} {G H : Hp} {hs : List Addr}
abbrev KA (G : Hp) : List D → List (List Key × Addr) → Prop := Paired fun d x => keyT x.1 = d ∧ G x.2 = some (.tup (x.1.map kV))
theorem KA.any {k : List Key} : ∀ {ks : List D} {xs : List (List Key × Addr)}, KA G ks xs → (ks.any fun y => kEqT y (keyT k)) = xs.any fun y => decide (y.1 = k)
  | _, _, .nil => rfl
  | _, _, .cons (a := d) (b := x) h t => by
    rw [List.any_cons, List.any_cons, KA.any t, ← h.1, kEqT_key]
theorem KA.ins {ks : List D} {xs : List (List Key × Addr)} {x : List Key × Addr} (h : KA G ks xs) (hx : G x.2 = some (.tup (x.1.map kV))) : KA G (insT ks (keyT x.1)) (insA xs x) := by
  unfold insT insA
  rw [KA.any h]
  split
  · exact h
  · exact Paired.snoc h ⟨rfl, hx⟩
end
theorem disp1T_eq {fk fv : Env → DS → R D} {η : Env} {s : DS} : disp1T fk fv η s = (fk η s).bnd fun k s1 => if isKeyT k = true then (fv η s1).bnd fun v s2 => .ok (.dit [(k, v)]) s2 else .bad := by
  unfold disp1T pair1T
  cases fk η s with
  | ok k s1 =>
    show R.bind (if isKeyT k = true then _ else _) _ = (if isKeyT k = true then _ else _)
    by_cases h : isKeyT k = true
    · rw [if_pos h, if_pos h]
      cases fv η s1 <;> rfl
    · rw [if_neg h, if_neg h]
  | ex c p s1 => rfl
  | bad => rfl
theorem opTin_d {k : D} {kvs : List (D × D)} : opTin k (.dit kvs) = if isKeyT k = true then some (.bl (valT kvs k).isSome) else none := rfl
theorem opTnin_d {k : D} {kvs : List (D × D)} : opTnin k (.dit kvs) = if isKeyT k = true then some (.bl (!(valT kvs k).isSome)) else none := rfl
theorem opTix_d {k : D} {kvs : List (D × D)} : opTix (.dit kvs) k = if isKeyT k = true then valT kvs k else none := rfl
theorem setTi_d {k x : D} {kvs : List (D × D)} : setTi k x (.dit kvs) = if isKeyT k = true ∧ kvs.length < 16777216 then some (.dit (putT kvs k x)) else none := rfl
theorem dkT_l {l : List D} : dkT [.lst l] = (keysT l).map fun ks => ks.foldl insT [] := rfl
end DL
set_option Elab.async false
set_option linter.all false
set_option maxRecDepth 100000
set_option maxHeartbeats 2000000
namespace DL
open PySem PySem.Spec PyProof.Rows L2
section
variable {M : Mp} {X : Cx} {W : WX} {K : PySem.W.Frag}
def sortXO : List D → Option D
  | [.tup l] => sortTO [.tup l]
  | ds => sortedO ds
theorem sortXO_l {l : List D} : sortXO [.lst l] = sortedO [.lst l] := rfl
theorem sortXO_d {l : List (D × D)} : sortXO [.dic l] = sortedO [.dic l] := rfl
theorem sortXO_t {l : List D} : sortXO [.tup l] = sortTO [.tup l] := rfl
theorem deref_dit {s : DS} {l : List (D × D)} : deref s (.dit l) = .dit l := rfl
end
end DL
set_option Elab.async false
set_option linter.all false
set_option maxRecDepth 100000
set_option maxHeartbeats 2000000
namespace DL
open PySem PySem.Spec PyProof.Rows L2 NdefX LamX
end DL
set_option Elab.async false
set_option linter.all false
set_option maxRecDepth 100000
set_option maxHeartbeats 4000000
namespace DL
open PySem PySem.Spec PyProof.Rows L2
end DL
set_option Elab.async false
set_option linter.all false
set_option maxRecDepth 100000
set_option maxHeartbeats 2000000
namespace DL
open PySem PySem.Spec PyProof.Rows L2
section
variable {η : DL.Env} {s : DS}
theorem lc2D_eq {fi : DL.Env → DS → R (List D)} {put : D → DL.Env → Option DL.Env} {ft : DL.Env → DS → R Bool} {fi1 : DL.Env → DS → R (List D)} {put1 : D → DL.Env → Option DL.Env} {ft1 : DL.Env → DS → R Bool} {fe : DL.Env → DS → R D} {vs vs1 : List Nat} : lc2D fi put ft fi1 put1 ft1 fe vs vs1 η s = (fi η s).bnd fun ds s1 => if ds.length ≤ 4095 then (lc2F put ft fi1 put1 ft1 fe vs1 (wipeE η vs) ds s1).bnd fun ys s2 => .ok (.lst ys) s2 else .bad := rfl
theorem asgmB_eq {f : Tg} {fe : DL.Env → DS → R D} : asgmB f fe η s = (fe η s).toF η fun d s1 => f d η s1 F.nx := rfl
theorem gmSub_eq {fp : DL.Env → DS → R Plc} {fi : DL.Env → DS → R D} {u : D → D → D → Option D} {x : D} {k : DL.Env → DS → F} : gmSub fp fi u x η s k = (fp η s).toF η fun pl s1 => (fi η s1).toF η fun i s2 => seqK (wrF pl (u i x) η s2) k := rfl
theorem gmN_eq {k : DL.Env → DS → F} : gmN [] η s k = k η s := rfl
theorem gmC_eq {f : Tg} {g : Tgs} {d : D} {r : List D} {k : DL.Env → DS → F} : gmC f g (d :: r) η s k = f d η s fun η1 s1 => g r η1 s1 k := rfl
theorem gmT_eq {n : Nat} {g : Tgs} {ds : List D} {k : DL.Env → DS → F} : gmT n g (.tup ds) η s k = if ds.length = n then g ds η s k else .bad := rfl
theorem gmG_eq {g : D → DL.Env → Option DL.Env} {d : D} {k : DL.Env → DS → F} : gmG g d η s k = match g d η with | some η' => k η' s | none => .bad := rfl
theorem slB_eq {fe : DL.Env → DS → R D} {fp : DL.Env → DS → R Plc} {fa fb : DL.Env → DS → R D} : slB fe fp fa fb η s = (fe η s).toF η fun x s1 => (fp η s1).toF η fun pl s2 => (fa η s2).toF η fun i s3 => (fb η s3).toF η fun j s4 => wrF pl (slU i j x) η s4 := rfl
theorem slU_eq {a c : Int} {ys ds : List D} : slU (.int a) (.int c) (.lst ys) (.lst ds) = if 0 ≤ a ∧ a ≤ c ∧ c ≤ ds.length ∧ ds.length + ys.length ≤ 16777216 then some (.lst (ds.take a.toNat ++ ys ++ ds.drop c.toNat)) else none := rfl
theorem seqK_nx {k : DL.Env → DS → F} : seqK (.nx η s) k = k η s := rfl
theorem popB_eq {i : Nat} {fp : DL.Env → DS → R Plc} {fa : DL.Env → DS → R (List D)} : popB i fp fa η s = (fp η s).toF η fun pl s1 => stAK (plcD pl η s1) fun d0 => if isLst d0 = true then (fa η s1).toF η fun ds s2 => popK i pl ds η s2 else .bad := rfl
theorem popK_eq {i : Nat} {pl : Plc} {ds : List D} : popK i pl ds η s = popM i pl η s ds (plcD pl η s) := rfl
theorem popM_c {i : Nat} {pl : Plc} {d : D} {ds : List D} : popM i pl η s [.int 0] (some (.lst (d :: ds))) = popSet i pl d ds η s := rfl
theorem popSet_s {i j : Nat} {d : D} {ds : List D} : popSet i (.slot j) d ds η s = setF (η.set j (.o (.lst ds))) i d s := rfl
theorem popSet_h {i j : Nat} {d : D} {ds : List D} : popSet i (.han j) d ds η s = setF η i d (s.set j (.lst ds)) := rfl
theorem popU_c {d : D} {ds : List D} : popU [.int 0] (.lst (d :: ds)) = some (.lst ds) := rfl
theorem conDicD_eq {ds : List D} : conDicD ds η s = R.ofO ((pairsD ds).map fun kvs => D.dic (mergeD [] kvs)) s := rfl
theorem sqO_t {l : List D} : sqO (.tup l) = some l := rfl
theorem sqO_l {l : List D} : sqO (.lst l) = some l := rfl
theorem revO_t {l : List D} : revO (.tup l) = some l.reverse := rfl
theorem lstIO_d {kvs : List (D × D)} : lstIO (.dic kvs) = some (.lst (kvs.map itmD)) := rfl
end
end DL
set_option Elab.async false
set_option linter.all false
set_option maxRecDepth 100000
set_option maxHeartbeats 2000000
namespace DR
open PySem L2 DL
noncomputable def B_law_roll : DL.Env → DS → F := seqB (ifB (orT (tstD (bopD opEq (bopD opIx (vB 0) (cD (.int 2))) (cD (.int 2)))) (andT (tstD (bopD opEq (bopD opIx (vB 0) (cD (.int 2))) (cD (.int 1)))) (tstD (bopD opGt (bopD opIx (vB 0) (cD (.int 0))) (cD (.int 0)))))) (seqB (setB 2 (bopD opMod (bltD intO (consA (bopD opIx (vB 0) (cD (.int 0))) (nilA))) (vB 1))) (seqB (stB (bopD opDiv (bopD opIx (vB 0) (cD (.int 0))) (vB 1)) (plV 0) (cD (.int 0)) setL) (retB (vD 2)))) (nextB)) (seqB (stB (cD (.int 0)) (plV 0) (cD (.int 2)) setL) (seqB (stB (bopD opMod (bltD intO (consA (bopD opAdd (bopD opAdd (bopD opMul (bopD opIx (vB 0) (cD (.int 0))) (cD (.int 48271))) (bopD opMul (bopD opIx (vB 0) (cD (.int 1))) (cD (.int 69621)))) (cD (.int 11))) (nilA))) (cD (.int 2147483647))) (plV 0) (cD (.int 0)) setL) (seqB (stB (bopD opAdd (bopD opIx (vB 0) (cD (.int 1))) (cD (.int 1))) (plV 0) (cD (.int 1)) setL) (retB (bopD opMod (bltD intO (consA (bopD opAdd (bopD opDiv (bopD opIx (vB 0) (cD (.int 0))) (cD (.int 7))) (bopD opIx (vB 0) (cD (.int 0)))) (nilA))) (vB 1))))))
noncomputable def m_law_roll : List D → DS → R D := fnD 3 B_law_roll
noncomputable def B_law_dice : DL.Env → DS → F := seqB (ifB (tstD (chD opLt opLt (bopD opSub (cD (.int 0)) (cD (.int 10))) (vB 0) (cD (.int 10)))) (retB (hanD (lstD (consA (bltD absO (consA (vB 0) (nilA))) (consA (cD (.int 0)) (consA (cD (.int 2)) (nilA))))))) (nextB)) (retB (hanD (lstD (consA (vD 0) (consA (bopD opAdd (cD (.int 1)) (bopD opMod (bltD intO (consA (vB 0) (nilA))) (cD (.int 1009)))) (consA (bltD intO (consA (bopD opGe (vB 0) (bopD opPow (cD (.int 10)) (cD (.int 18)))) (nilA))) (nilA)))))))
noncomputable def m_law_dice : List D → DS → R D := fnD 1 B_law_dice
noncomputable def B_law_rounds : DL.Env → DS → F := seqB (setB 2 (sliceD (vB 0) (partN) (partS (vD 1)))) (seqB (ifB (tstD (bopD opEq (vB 2) (lstD (nilA)))) (setB 2 (lstD (consA (cD (.int 0)) (nilA)))) (nextB)) (retB (calmD (lcD (iterD scrO (vD 2)) (gN 3) (yesT) (callD (gateD 1 m_law_dice) (consA (vD 3) (nilA))) [3]))))
noncomputable def m_law_rounds : List D → DS → R D := fnD 4 B_law_rounds
structure Dc where
  a : Int
  b : Int
  c : Int
def Dc.d (x : Dc) : D := .lst [.int x.a, .int x.b, .int x.c]
def Dc.low (x : Dc) : Bool := decide (x.c = 2) || (decide (x.c = 1) && decide (0 < x.a))
def Dc.mix (x : Dc) : Int := (x.a * 48271 + x.b * 69621 + 11) % 2147483647
def Dc.roll (x : Dc) (m : Int) : Int := if x.low = true then x.a % m else (x.mix / 7 + x.mix) % m
def Dc.next (x : Dc) (m : Int) : Dc := if x.low = true then ⟨x.a / m, x.b, x.c⟩ else ⟨x.mix, x.b + 1, 0⟩
theorem Dc.roll_bd (x : Dc) {m : Int} (h : 0 < m) : 0 ≤ x.roll m ∧ x.roll m < m := by
  unfold Dc.roll
  split
  · exact ⟨Int.emod_nonneg _ (by omega), Int.emod_lt_of_pos _ h⟩
  · exact ⟨Int.emod_nonneg _ (by omega), Int.emod_lt_of_pos _ h⟩
local macro_rules | `(tactic| walk_at "dl") => `(tactic| simp -implicitDefEqProofs (disch := first | omega | assumption | (simp only [okN, okNL, okNL_mi, D.has, hasL, flt, isI, isS, List.all_cons, List.all_nil, Bool.or_true, Bool.true_or, Bool.false_or, Bool.false_and, Bool.and_self, Bool.and_true, Bool.true_and]; done) | (simp only [List.length_cons, List.length_nil, List.length_append, List.length_map, List.length_range]; omega) | (simp only [okN, okNL, Bool.and_self, Bool.and_true, Bool.true_and]; decide +kernel) | decide +kernel | fail) only [ opEqDs_d, opEqDs_s, opEqN_l, opNeN_l, List.isEmpty_cons, List.isEmpty_nil, List.isEmpty_map, lc2D_eq, asgmB_eq, opEqO_o, opNeO_o, opEqO_s, opNeO_s, gmG_eq, slB_eq, slU_eq, gmSub_eq, gmN_eq, gmC_eq, gmT_eq, seqK_nx, deref_tup0, calmDD_eq, calmDK_d, dnewD_eq, frzDB_eq, frzDK_d, opDix_i, opDix_s, opDin_i, opDin_s, opDnin_i, opDnin_s, setDi_i, setDi_s, getDi_i, getDi_s, isDic_d, getD1_eq, getD2_eq, get1O_i, get1O_s, get2O_i, get2O_s, lenDO_d, listKO_d, dicK_d, dicV_d, dicI_d, tupIO_d, dicIO_d, dictO_d, nilP_eq, consP_eq, dispD_eq, isKey_i, isKey_s, opIs_x, opIsNot_x, isN_n, isN_i, isN_s, isN_t, isN_l, untD_eq, un0_t, ix0D_eq, isTup0_t, tup0O_l, rgaD_eq, minTO_eq, enumTO_t, maxTO_eq, sortK_eq, bopTD_eq, ofO_some, seqB_eq, then_nx, then_rt, then_bk, then_ct, then_ex, then_bad, bind_ok, bind_ex, bind_bad, toF_ok, toF_ex, toF_bad, ofO_some, ofO_none, nx_ok, cD_eq, vD_0, vD_s, vB_0, vB_o, vB_s, bopD_eq, uopD_eq, tstD_eq, asB_bl, asI_int, deref_int, deref_bl, deref_str, deref_non, deref_tup, deref_lst, deref_dic, deref_obj, deref_scr, deref_han, chD_eq, ch3D_eq, andT_eq, orT_eq, notT_eq, ifD_eq, andD_eq, orD_eq, notD_eq, nilA_eq, consA_eq, tupD_eq, lstD_eq, fldD_eq, bltD_eq, partN_eq, partS_eq, sliceD_eq, callD_eq, gateD_eq, methD_eq, isC_obj, calmD_eq, calmN_eq, calmK_obj, hanD_eq, notObj_l, notObj_t, notObj_d, setB_eq, setOB_eq, setF_eq, setOF_eq, ifB_eq, retB_eq, retN_eq, dropB_eq, nextB_eq, breakB_eq, contB_eq, raiseA_eq, augB_eq, frzB_eq, frzL_nil, frzL_cons, frzE_zl, frzE_zd, frzE_zv, frzE_zn, frzE_s, asgB_eq, asg2B_eq, parB_eq, putAll_nil, putAll_cons, asgFB_eq, nilF_eq, consV_eq, consO_eq, gN_eq, gsN_eq, gsC_eq, gT_eq, fnD_eq, fnK_nx, fnK_rt, fnK_ex, fnK_bad, inD_eq, inK_nx, inK_ex, toldD_eq,  ite_yes, ite_no, dec_yes, dec_no, plV_eq, plK_o, plK_h, plE_eq, plEK_h, wrF_slot, wrF_han, wrS_o, wrH_s, wrSU_s, wrHU_s, fldB_eq, fldU_eq, stB_eq, stAK_s, stAugB_eq, fldAugB_eq, plcD_slot, plcD_han, plS_o, mtB_eq, mthD_eq, isLst_l, appU_l, setL_l, getL_l, ixN_ok, atI_0, atI_1, atI_2, atI_3, atI_4, atI_5, atI_6, atI_7, atI_8, atI_9, atI_10, atI_11, atI_12, atI_13, atI_14, atI_15, forB_eq, rngD_eq, iterD_eq, rng1_int, rng2_int, scrO_l, scrO_s, lstO_l, tupO_l, putK_some, goK_nx, goK_ct, goK_bk, goK_rt, goK_ex, lcD_eq, wipeE_nil, wipeE_cons, yesT_eq, lcPut_some, wipB_eq, forW_eq, preB_eq, wip_nx, wip_bk, wip_ct, wip_rt, wip_ex, wip_bad, keep_t, keep_f, keep_n, asgO_s, asgK_eq, asgFK_eq, putS_nil, putS_v, putS_o, and_self, ite_self, wrS_o, wrSU_s, true_and, and_true, false_and, and_false, decide_true, decide_false, Int.reduceLT, Int.reduceLE, Int.reduceEq, Int.reduceAdd, Int.reduceSub, Int.reduceMul, Int.reduceNeg, Int.reduceDiv, Int.reduceMod, Int.reduceNe, turnF_eq,
  cut_to, cut_from, cut_both, opCut_l, opCut_t, opCut_s, opPow_int, opAdd_tup, opAdd_lst, opEq_ts, opEq_ls, opEq_st, opEq_sl, opNe_ts, opNe_ls, opNe_st, opNe_sl, opEq_ss, opNe_ss, opEq_nn, opNe_self, opEq_self, opNe_nn, opNe_lnil, opEq_lnil, opNe_is, opEq_is, opNe_si, opEq_si, opNe_bb, opEq_bb, opAdd_int, opAug_int, opSub_int, opMul_r, opMul_l, opMulI_r, opMulI_l, opDiv_int, opMod_int, opLt_int, opLe_int, opGt_int, opGe_int, opEq_int, opNe_int, min2_int, max2_int, min3_int, min4_int, opNeg_int, listO_l, listO_t, tupleO_l, tupleO_t, zipO_ll, zipO_tt, zipMO_tl, conIxD_eq, disp1T_eq, opTin_d, opTnin_d, opTix_d, setTi_d, dkT_l, enumO_l, enumLO_l, lenO_l, lenO_t, opIn_lst, opIn_tup, opNin_lst, opNin_tup, opInX_lstF, opInX_tupF, opNinX_lstF, opNinX_tupF, eqB_ss, eqB_ii, List.any_cons, List.any_nil, gSumD_eq, gAnyD_eq, anyF_nil, anyPut_some, absO_int, intO_int, intO_bl, fldO_eq, opIx_t, opIx_l,
  Bool.true_and, Bool.and_true, Bool.false_and, Bool.and_false, List.map_cons, List.map_nil, List.length_cons, List.length_nil, List.set_cons_zero, List.set_cons_succ, List.getElem?_cons_zero, List.getElem?_cons_succ, Option.map_some, Option.bind_some, decide_eq_true_eq, Bool.not_eq_true', decide_eq_false_iff_not, Bool.not_true, Bool.false_eq_true, reduceCtorEq, Bool.not_false, ite_true, ite_false, if_true, if_false, Nat.reduceAdd, Nat.reduceLeDiff, Nat.reduceLT, Nat.reduceSub, beq_self_eq_true, Nat.reduceEqDiff, reduceIte, Int.reduceToNat, Int.reducePow, List.take_zero, List.take_nil, List.drop_nil, List.drop_zero, List.take_succ_cons, List.drop_succ_cons, forF_nil, padE, List.length_append, List.replicate, List.append_nil, List.cons_append, List.nil_append])
theorem roll_eq (x : Dc) (m : Int) (t : DS) (h : 0 < m ∧ m < 18446744073709551616) : m_law_roll [.han 0, .int m] (x.d :: t) = .ok (.int (x.roll m)) ((x.next m).d :: t) := by
  obtain ⟨a, b, c⟩ := x
  unfold m_law_roll B_law_roll Dc.roll Dc.next Dc.low Dc.mix
  simp only [Dc.d]
  by_cases h2 : c = 2
  · subst h2
    walk_at "dl"
    try simp
  · by_cases h1 : c = 1
    · subst h1
      by_cases h0 : 0 < a
      · walk_at "dl"
      · walk_at "dl"
    · walk_at "dl"
      try simp [h1, h2]
def start (c : Int) : Dc := if -10 < c ∧ c < 10 then ⟨c.natAbs, 0, 2⟩ else ⟨c, 1 + c % 1009, if 10 ^ 18 ≤ c then 1 else 0⟩
theorem dice_eq (c : Int) (s : DS) : m_law_dice [.int c] s = .ok (.han s.length) (s ++ [(start c).d]) := by
  unfold m_law_dice B_law_dice start
  simp only [Dc.d]
  by_cases h : -10 < c ∧ c < 10
  · rw [if_pos h]
    walk_at "dl"
  · rw [if_neg h]
    by_cases h1 : -10 < c
    · walk_at "dl"
    · walk_at "dl"
local macro_rules | `(tactic| walk_at "dlr") => `(tactic| simp -implicitDefEqProofs (disch := first | omega | assumption | (simp only [okN, okNL, okNL_mi, D.has, hasL, flt, isI, isS, List.all_cons, List.all_nil, Bool.or_true, Bool.true_or, Bool.false_or, Bool.false_and, Bool.and_self, Bool.and_true, Bool.true_and]; done) | (simp only [List.length_cons, List.length_nil, List.length_append, List.length_map, List.length_range]; omega) | (simp only [okN, okNL, Bool.and_self, Bool.and_true, Bool.true_and]; decide +kernel) | decide +kernel | fail) only [dice_eq, lcF_cons, lcF_nil, opEq_lnil, opEqDs_d, opEqDs_s, opEqN_l, opNeN_l, List.isEmpty_cons, List.isEmpty_nil, List.isEmpty_map, lc2D_eq, asgmB_eq, opEqO_o, opNeO_o, opEqO_s, opNeO_s, gmG_eq, slB_eq, slU_eq, gmSub_eq, gmN_eq, gmC_eq, gmT_eq, seqK_nx, deref_tup0, calmDD_eq, calmDK_d, dnewD_eq, frzDB_eq, frzDK_d, opDix_i, opDix_s, opDin_i, opDin_s, opDnin_i, opDnin_s, setDi_i, setDi_s, getDi_i, getDi_s, isDic_d, getD1_eq, getD2_eq, get1O_i, get1O_s, get2O_i, get2O_s, lenDO_d, listKO_d, dicK_d, dicV_d, dicI_d, tupIO_d, dicIO_d, dictO_d, nilP_eq, consP_eq, dispD_eq, isKey_i, isKey_s, opIs_x, opIsNot_x, isN_n, isN_i, isN_s, isN_t, isN_l, untD_eq, un0_t, ix0D_eq, isTup0_t, tup0O_l, rgaD_eq, minTO_eq, enumTO_t, maxTO_eq, sortK_eq, bopTD_eq, ofO_some, seqB_eq, then_nx, then_rt, then_bk, then_ct, then_ex, then_bad, bind_ok, bind_ex, bind_bad, toF_ok, toF_ex, toF_bad, ofO_some, ofO_none, nx_ok, cD_eq, vD_0, vD_s, vB_0, vB_o, vB_s, bopD_eq, uopD_eq, tstD_eq, asB_bl, asI_int, deref_int, deref_bl, deref_str, deref_non, deref_tup, deref_lst, deref_dic, deref_obj, deref_scr, deref_han, chD_eq, ch3D_eq, andT_eq, orT_eq, notT_eq, ifD_eq, andD_eq, orD_eq, notD_eq, nilA_eq, consA_eq, tupD_eq, lstD_eq, fldD_eq, bltD_eq, partN_eq, partS_eq, sliceD_eq, callD_eq, gateD_eq, methD_eq, isC_obj, calmD_eq, calmN_eq, calmK_obj, hanD_eq, notObj_l, notObj_t, notObj_d, setB_eq, setOB_eq, setF_eq, setOF_eq, ifB_eq, retB_eq, retN_eq, dropB_eq, nextB_eq, breakB_eq, contB_eq, raiseA_eq, augB_eq, frzB_eq, frzL_nil, frzL_cons, frzE_zl, frzE_zd, frzE_zv, frzE_zn, frzE_s, asgB_eq, asg2B_eq, parB_eq, putAll_nil, putAll_cons, asgFB_eq, nilF_eq, consV_eq, consO_eq, gN_eq, gsN_eq, gsC_eq, gT_eq, fnD_eq, fnK_nx, fnK_rt, fnK_ex, fnK_bad, inD_eq, inK_nx, inK_ex, toldD_eq,  ite_yes, ite_no, dec_yes, dec_no, plV_eq, plK_o, plK_h, plE_eq, plEK_h, wrF_slot, wrF_han, wrS_o, wrH_s, wrSU_s, wrHU_s, fldB_eq, fldU_eq, stB_eq, stAK_s, stAugB_eq, fldAugB_eq, plcD_slot, plcD_han, plS_o, mtB_eq, mthD_eq, isLst_l, appU_l, setL_l, getL_l, ixN_ok, atI_0, atI_1, atI_2, atI_3, atI_4, atI_5, atI_6, atI_7, atI_8, atI_9, atI_10, atI_11, atI_12, atI_13, atI_14, atI_15, forB_eq, rngD_eq, iterD_eq, rng1_int, rng2_int, scrO_l, scrO_s, lstO_l, tupO_l, putK_some, goK_nx, goK_ct, goK_bk, goK_rt, goK_ex, lcD_eq, wipeE_nil, wipeE_cons, yesT_eq, lcPut_some, wipB_eq, forW_eq, preB_eq, wip_nx, wip_bk, wip_ct, wip_rt, wip_ex, wip_bad, keep_t, keep_f, keep_n, asgO_s, asgK_eq, asgFK_eq, putS_nil, putS_v, putS_o, and_self, ite_self, wrS_o, wrSU_s, true_and, and_true, false_and, and_false, decide_true, decide_false, Int.reduceLT, Int.reduceLE, Int.reduceEq, Int.reduceAdd, Int.reduceSub, Int.reduceMul, Int.reduceNeg, Int.reduceDiv, Int.reduceMod, Int.reduceNe, turnF_eq,
  cut_to, cut_from, cut_both, opCut_l, opCut_t, opCut_s, opPow_int, opAdd_tup, opAdd_lst, opEq_ts, opEq_ls, opEq_st, opEq_sl, opNe_ts, opNe_ls, opNe_st, opNe_sl, opEq_ss, opNe_ss, opEq_nn, opNe_self, opEq_self, opNe_nn, opNe_lnil, opEq_lnil, opNe_is, opEq_is, opNe_si, opEq_si, opNe_bb, opEq_bb, opAdd_int, opAug_int, opSub_int, opMul_r, opMul_l, opMulI_r, opMulI_l, opDiv_int, opMod_int, opLt_int, opLe_int, opGt_int, opGe_int, opEq_int, opNe_int, min2_int, max2_int, min3_int, min4_int, opNeg_int, listO_l, listO_t, tupleO_l, tupleO_t, zipO_ll, zipO_tt, zipMO_tl, conIxD_eq, disp1T_eq, opTin_d, opTnin_d, opTix_d, setTi_d, dkT_l, enumO_l, enumLO_l, lenO_l, lenO_t, opIn_lst, opIn_tup, opNin_lst, opNin_tup, opInX_lstF, opInX_tupF, opNinX_lstF, opNinX_tupF, eqB_ss, eqB_ii, List.any_cons, List.any_nil, gSumD_eq, gAnyD_eq, anyF_nil, anyPut_some, absO_int, intO_int, intO_bl, fldO_eq, opIx_t, opIx_l,
  Bool.true_and, Bool.and_true, Bool.false_and, Bool.and_false, List.map_cons, List.map_nil, List.length_cons, List.length_nil, List.set_cons_zero, List.set_cons_succ, List.getElem?_cons_zero, List.getElem?_cons_succ, Option.map_some, Option.bind_some, decide_eq_true_eq, Bool.not_eq_true', decide_eq_false_iff_not, Bool.not_true, Bool.false_eq_true, reduceCtorEq, Bool.not_false, ite_true, ite_false, if_true, if_false, Nat.reduceAdd, Nat.reduceLeDiff, Nat.reduceLT, Nat.reduceSub, beq_self_eq_true, Nat.reduceEqDiff, reduceIte, Int.reduceToNat, Int.reducePow, List.take_zero, List.take_nil, List.drop_nil, List.drop_zero, List.take_succ_cons, List.drop_succ_cons, forF_nil, padE, List.length_append, List.replicate, List.append_nil, List.cons_append, List.nil_append])
theorem rounds_eq (ns : List Int) : ∃ x : Dc, m_law_rounds [.scr ns, .int 1] [] = .ok (.lst [.han 0]) [x.d] := by
  cases ns with
  | nil =>
    refine ⟨start 0, ?_⟩
    unfold m_law_rounds B_law_rounds
    walk_at "dlr"
  | cons n ns =>
    refine ⟨start n, ?_⟩
    have h : okN 9 (.lst [.int n]) = true := by simp [okN, okNL]
    have h2 := opEq_lnil h
    unfold m_law_rounds B_law_rounds
    walk_at "dlr"
end DR
set_option Elab.async false
set_option linter.all false
set_option maxRecDepth 100000
set_option maxHeartbeats 4000000
namespace DL
open PySem PySem.Spec PyProof PyProof.Rows L2
/-- what such an __init__ is -/
structure BtD (K : PySem.W.Frag) (file : Str) (C fI : Addr) : Prop where
  ex : ∃ (oc : Value) (od : Option Addr) (osl : Array (Option Value)) (nm qual : Str) (q1 q2 p0 p1 p2 p3 p4 p5 p6 p7 p8 p9 : Pos) (j : Nat) (msg : Str) (scope : Scope) (kV doc pm ct : Value) (an : Option Addr) (cda cc : Addr)
    (oc2 : Value) (od2 : Option Addr) (vs2 : Array Value) (sl2 : Array (Option Value)) (tf : Tok) (oc3 : Value) (od3 : Option Addr) (sl3 : Array (Option Value)),
    K.lookup fI = some ⟨oc, od, .func (PySem.W.ksFn nm qual ⟨[], [⟨"self", none, q1⟩, ⟨"row", none, q2⟩], none, [], [], none, []⟩
      [.Expr (.Call (.Attribute (.Call (.Name "super" p0) [] [] p1) "__init__" p2) [.Constant (.str msg) j p3] [] p4) p5, .Assign [.Attribute (.Name "self" p6) "row" p7] (.Name "row" p8) p9] scope .none kV doc pm an (.ref cda) ct cc), osl⟩ ∧
    PySem.W.codeIn K (.ref cda) qual = true ∧ scope.kind = .function ∧ scope.isCoroutine = false ∧ scope.isGenerator = false ∧ (∀ x ∈ scope.names, x.2 ≠ .cell) ∧ scope.names.lookup ("super" : Str) = some .globalImplicit ∧
    scope.names.lookup ("__class__" : Str) = some .free ∧ scope.names.lookup ("self" : Str) = some .local ∧ scope.names.lookup ("row" : Str) = some .local ∧
    K.lookup cda = some ⟨oc2, od2, .fields vs2, sl2⟩ ∧ vs2[2]? = some (.str file tf) ∧ (p2.endLine == p4.line) = true ∧ K.lookup cc = some ⟨oc3, od3, .cell (some (.ref C)), sl3⟩
structure BtC (K : PySem.W.Frag) (C fI : Addr) : Prop where
  oex : OexC K C
  ini : PySem.W.findIn K (.ref C) "__init__" = some (some (.ref fI))
  tI : PySem.W.typeIn K (.ref fI) = some (.type "function")
  sub : PySem.W.mroIn K C (.ref C) = some true
  thp : PySem.W.nsIn K cStatics "thirdparty.any" = some none
  sup : PySem.W.ks_superIn K C C "__init__" = some (some (.builtin "ValueError.__init__"))
  sV : PySem.W.subIn K (.ref C) (.type "ValueError") = some true
  inV : PySem.W.excInitIn K C [.type "ValueError", .type "Exception", .type "BaseException", .type "object"] "ValueError.__new__" = true
  row : PySem.W.findIn K (.ref C) "row" = some none
def spBt (C : Addr) : Sp := fun vs H Q _ => ∃ (a : Addr) (v : V), vs = [.ref a, v] ∧ H a = some (exo a C none) ∧ ∀ dx, H dx = none → dx ≠ a → Q .non (upd (upd H dx (exd dx [("row", v)])) a (exo a C (some dx)))
theorem ev_meth {o e : Expr} {name : Str} {apos pos : Pos} {env : PySem.Env} (hline : (apos.endLine == pos.line) = true) (hs : backTo pos (starEach [e] env) = [(false, eval e env)]) :
  ∃ pl, eval (.Call (.Attribute o name apos) [e] [] pos) env = (do
      let ov ← attributeBase o name env (eval o env)
      standAt apos.atName
      let (f, first) ← holding [ov] (getMethod ov name pl)
      callWith pos f first (backTo pos (starEach [e] env)) []) := by
  have hform : methodCallForm (([e] : List Expr).length + ([] : List Keyword).length) (backTo pos (starEach [e] env)) (backToKw pos (keywordEach [] env)) = true := by rw [hs]; rfl
  refine ⟨?_, ?_⟩
  rotate_left
  rw [arm_eval_Call]
  unfold methodCall calleeOf methodCallPos
  simp only [hform, hline, Bool.not_true, Bool.or_true, if_true, pure_bind]
  rfl
section
variable {P : Program} {w : World} {K : PySem.W.Frag} {mg : Str → Option Value} {base : Heap} {CX : CXT} {file : Str} {C fI : Addr}
theorem bt_run (B : BtD K file C fI) (T : BtC K C fI) (hP : (P.main.file : Str) = file) (htop : (P.main.scope.names.lookup ("super" : Str)).isSome = false) (mgs : mg "super" = none) :
    ∃ fd, Binds K fd ["self", "row"] [] ∧ ∀ (CX : CXT) (A : Around) (outer : List PySem.Env) (s : Shared) (H : Hp) (args : Args) (us : List Value) (vs : List V) (Q : VK) (E : XK), A.depth < recursionLimit → Env0 P w K mg base A outer s H → BindsTo s fd args ((["self", "row"] : List Str).zip us) → Vals vs us → spBt C vs H Q E →
      codeAny (model P w) A (.call (.ref fI) args) (CR CX outer P w H s Q E) s := by
  obtain ⟨oc, od, osl, nm, qual, q1, q2, p0, p1, p2, p3, p4, p5, p6, p7, p8, p9, j, msg, ⟨kd, nms, gn, co, mo⟩, kV, doc, pm, ct, an, cda, cc, oc2, od2, vs2, sl2, tf, oc3, od3, sl3, lk, hcd, s1, s2, s3, s4, s5, s6, s7, s8, lc, hv2, hline, lcc⟩ := B.ex
  have s1 : kd = .function := s1
  have s2 : co = false := s2
  have s3 : gn = false := s3
  subst s1 s2 s3
  have s4 : ∀ x ∈ nms, x.2 ≠ .cell := s4
  have s5 : nms.lookup ("super" : Str) = some .globalImplicit := s5
  have s6 : nms.lookup ("__class__" : Str) = some .free := s6
  have s7 : nms.lookup ("self" : Str) = some .local := s7
  have s8 : nms.lookup ("row" : Str) = some .local := s8
  have hb : Binds K (PySem.W.ksFn nm qual ⟨[], [⟨"self", none, q1⟩, ⟨"row", none, q2⟩], none, [], [], none, []⟩
      [.Expr (.Call (.Attribute (.Call (.Name "super" p0) [] [] p1) "__init__" p2) [.Constant (.str msg) j p3] [] p4) p5, .Assign [.Attribute (.Name "self" p6) "row" p7] (.Name "row" p8) p9] ⟨.function, nms, false, false, mo⟩ .none kV doc pm an (.ref cda) ct cc) ["self", "row"] [] := .all fun us hl => match us, hl with
    | [_, _], _ => rfl
  refine ⟨_, hb, fun CX A outer s H args us vs Q E hr e0 hbd r hsp => ?_⟩
  obtain ⟨a, v, rfl, ha, hq⟩ := hsp
  obtain ⟨u0, u1, rfl, r0, r1⟩ : ∃ u0 u1, us = [u0, u1] ∧ RelV (.ref a) u0 ∧ RelV v u1 := by
    cases r with
    | cons r1 rs =>
      cases rs with
      | cons r2 rs2 =>
        cases rs2
        exact ⟨_, _, rfl, r1, r2⟩
  obtain rfl : u0 = Value.ref a := r0
  obtain ⟨t1, ho⟩ := exo_at e0.hok ha
  obtain ⟨hp, g, d, tk, os⟩ := s
  have bk : ∀ b o, base.get? b = some o → hp.get? b = some o ∧ H b = none := e0.bs
  have KX : K.In hp := e0.mod.kin.keeps fun b o e => (bk b o e).1
  have lim : hp.NoLimit := e0.mod.nolimit.keeps fun b o e => (bk b o e).1
  have nb : ∀ {b : Addr} {o : Obj}, base.get? b = some o → b ≠ a := fun {b o} e z => by
    have := (bk b o e).2
    rw [z, ha] at this
    cases this
  have hdl : ∀ b o, base.get? b = some o → (PySem.W.hideAll hp [a]).get? b = some o := fun b o e => PySem.W.hideAll_get [a] (bk b o e).1 (by simpa using nb e)
  have X0 : K.In (PySem.W.hideAll hp [a]) := e0.mod.kin.keeps hdl
  obtain ⟨mb, hmb, hblt⟩ := e0.mod.blt
  have Tg : (PySem.W.hideAll hp [a]).Ns mainGlobals mg := e0.mod.glob.keeps hdl
  have Tb : (PySem.W.hideAll hp [a]).Ns builtinsNs mb := hmb.keeps hdl
  refine PySem.ks_codeAny_call_defAt (fd := PySem.W.ksFn nm qual _ _ ⟨.function, nms, false, false, mo⟩ .none kV doc pm an (.ref cda) ct cc) hr (KX _ _ lk) rfl lim (PySem.W.codeRec_of KX hcd) rfl hbd s4 (fun x hx => ?_) (fun h1 hns k1 => ?_) rfl rfl rfl
  · rcases List.mem_cons.mp hx with rfl | hx
    · exact s7
    · rcases List.mem_cons.mp hx with rfl | hx
      · exact s8
      · cases hx
  have la : a < hp.objs.size := Heap.lt_size ho
  have F : Fr (PySem.W.hideAll hp [a]) hp.objs.size h1 (fun x => ([(("self" : Str), Value.ref a), (("row" : Str), u1)] : List (Str × Value)).reverse.lookup x) := ⟨hns, fun b o e => k1 b o (PySem.W.of_hideAll _ e), Nat.le_of_eq (PySem.W.hideAll_size _ _)⟩
  have N : News (PySem.W.hideAll hp [a]) hp.objs.size h1 [(a, PySem.W.excObj C t1 none .none)] := fun p hp2 => by
    rcases List.mem_cons.mp hp2 with rfl | z
    · exact ⟨k1 _ _ ho, Nat.ne_of_lt la, PySem.W.hideAll_none _ (by simp)⟩
    · cases z
  obtain ⟨nm2, qn2, N2, bs2, bm2, sn2, sb2, ab2, col2, dd2, c0, c1, c2, c3, c5, hC, hbm⟩ := T.oex.cls
  have hcl : PySem.W.clsIn K C = some { name := nm2, bases := bs2, mro := .ref C :: bm2, ns := N2, qualname := qn2, hasDict := true, slotNames := sn2, subclasses := sb2, abstract := ab2, collection := col2, hasDel := false } := by unfold PySem.W.clsIn; rw [hC] <;> rfl
  have hself : (fun x => ([(("self" : Str), Value.ref a), (("row" : Str), u1)] : List (Str × Value)).reverse.lookup x) ("self" : Str) = some (.ref a) := by rfl
  have hrow : (fun x => ([(("self" : Str), Value.ref a), (("row" : Str), u1)] : List (Str × Value)).reverse.lookup x) ("row" : Str) = some u1 := by rfl
  generalize (fun x => ([(("self" : Str), Value.ref a), (("row" : Str), u1)] : List (Str × Value)).reverse.lookup x) = m at *
  have X1 : K.In h1 := X0.keeps F.keep
  have gC := X1 _ _ hC
  have ga : h1.get? a = some (PySem.W.excObj C t1 none .none) := k1 _ _ ho
  obtain ⟨pl, he⟩ := ev_meth (o := .Call (.Name "super" p0) [] [] p1) (e := .Constant (.str msg) j p3) (name := "__init__") (env := PySem.W.ksEnv qual ⟨.function, nms, false, false, mo⟩ hp.objs.size fI (.ref cda) cc) hline rfl
  refine PySem.ks_wpAt_execs_cons (PySem.ks_wpAt_Expr_any (PySem.ks_wpAt_MethodCall (pl := pl) ?_ he))
  refine PySem.ks_wpAt_super_base (env := PySem.W.ksEnv qual ⟨.function, nms, false, false, mo⟩ hp.objs.size fI (.ref cda) cc) s5 s6 (by decide) rfl (X1 _ _ lk) rfl rfl rfl (X1 _ _ lc) rfl hv2 (by rw [hP]; simp) htop ?_
  refine PySem.W.ks_loadName_global (env := PySem.W.ksEnv qual ⟨.function, nms, false, false, mo⟩ hp.objs.size fI (.ref cda) cc) rfl s5 (PySem.Calls.loadGlobal_builtin (env := PySem.W.ksEnv qual ⟨.function, nms, false, false, mo⟩ hp.objs.size fI (.ref cda) cc) (Tg.keeps F.keep) mgs (Tb.keeps F.keep) ((hblt _ (by decide +kernel)).trans (by first | boot_by_name | rfl | kernel_rfl)) ⟨rfl, ?_⟩)
  refine wpAny_loadName_free (env := PySem.W.ksEnv qual ⟨.function, nms, false, false, mo⟩ hp.objs.size fI (.ref cda) cc) rfl s6 rfl ⟨_, X1 _ _ lcc, rfl⟩ ?_
  refine wpAny_loadName_local (env := PySem.W.ksEnv qual ⟨.function, nms, false, false, mo⟩ hp.objs.size fI (.ref cda) cc) rfl s7 F.ns hself ?_
  refine PySem.ks_wpAny_isType_cls gC rfl ⟨rfl, ?_⟩
  refine PySem.ks_wpAny_call_super gC rfl ga rfl (fun c e => by cases e) (PySem.W.looks_mroIn X1 T.sub) (fun h2 e2 k2 => ?_)
  obtain ⟨F2, N2, l2⟩ := PySem.W.ks_newsPush (s := ⟨h1, g, d, tk + 2, os⟩) F N rfl e2 k2
  have ga2 := (N2 (a, PySem.W.excObj C t1 none .none) (by simp)).1
  refine PySem.W.kxs_method (x := a) (C := C) (D := C) (so := h1.objs.size) (s := ⟨h2, g, d, _, os⟩) PySem.W.kxs_ValueError F2 X0 N2 (by simp) (PySem.W.InstAt.of_exc0 N2 (c2 := .none) (t := t1) (C := C) (by simp)) T.thp T.sup T.sV (by decide) (fun q h3 F3 N3 l3 => ?_)
  refine PySem.W.kxs_callWith1 (i := "ValueError.__init__") (x := a) N3 (by simp) ?_
  show wpAny _ _ (spliced ((false, eval (.Constant (.str msg) j p3) _) :: [])) _ _ _
  refine Calls.spliced_cons (Calls.Constant_str (Calls.spliced_nil ⟨PySem.W.kxs_at N3 (by simp), ?_⟩))
  refine PySem.W.kxs_call (C := C) F3 X0 N3 PySem.F.excBase_ValueError T.inV (by simp) (.tail (Nat.ne_of_gt (l3 (a, PySem.W.excObj C t1 none .none) (by simp))) (.tail (Nat.ne_of_gt (l2 (a, PySem.W.excObj C t1 none .none) (by simp))) (.head (by simp)))) (by rw [sizeLine_eq]; show 1 ≤ _; decide) (fun t4 h4 F4 N4 l4 => ?_)
  refine PySem.ks_wpAt_execs_cons (PySem.ks_wpAt_Assign_Attr (PySem.wpAt_of_wpAny ?_))
  refine wpAny_Name (wpAny_loadName_local (env := PySem.W.ksEnv qual ⟨.function, nms, false, false, mo⟩ hp.objs.size fI (.ref cda) cc) rfl s8 F4.ns hrow ?_) (by decide)
  refine wpAny_Name (wpAny_loadName_local (env := PySem.W.ksEnv qual ⟨.function, nms, false, false, mo⟩ hp.objs.size fI (.ref cda) cc) rfl s7 F4.ns hself ?_) (by decide)
  have ga4 := (N4 (a, PySem.W.excObj C t4 none .none) (by simp)).1
  have k4 : ∀ b o, b ≠ a → hp.get? b = some o → h4.get? b = some o := fun b o hb e => F4.keep b o (PySem.W.hideAll_get [a] e (by simpa using hb))
  refine PySem.W.set_plain (X0.keeps F4.keep) (PySem.W.InstAt.of_exc0 (x := a) (C := C) N4 (c2 := .none) (t := t4) (by simp)) T.oex.sa ?_
  refine PySem.HandSPX.exc_osa (X0.keeps F4.keep) ga4 hcl (show PySem.HandSPX.refsVE (.ref C :: bm2) = true from hbm) rfl T.row (fun h' tk' dx k dn dne hx hn => ?_)
  have lt4 : hp.objs.size < h4.objs.size := F4.ns.lt
  have hnd : H dx = none := e0.hok.fresh (Nat.le_trans (Nat.le_of_lt lt4) dn)
  have kk : ∀ b o, b ≠ a → hp.get? b = some o → h'.get? b = some o := fun b o hb e => k b o hb (k4 b o hb e)
  have nd : ∀ {b : Addr} {o : Obj}, hp.get? b = some o → b ≠ dx := fun {b o} q => Nat.ne_of_lt (Nat.lt_of_lt_of_le (Heap.lt_size q) (Nat.le_trans (Nat.le_of_lt lt4) dn))
  have na : ∀ {b : Addr}, H b = none → b ≠ a := fun {b} n z => by
    rw [z, ha] at n
    cases n
  have Un1 : Un (frs outer) [] H (upd (upd H dx (exd dx [("row", v)])) a (exo a C (some dx))) hp h' := {
    keep := fun b o q n _ _ => kk b o (na n) q
    slot := fun b o q n _ _ => ⟨o.slots, kk b o (na n) q⟩
    free := fun b o q n _ => by rw [upd_ne (na n), upd_ne (nd q)]; exact n
    there := fun b o q _ => by
      by_cases hb : b = a
      · exact ⟨_, by rw [hb]; exact hx⟩
      · exact ⟨o, kk b o hb q⟩
    tups := fun b xs q => by rw [upd_ne (at_ne ha q exo_tup), upd_ne (ne_of_none q hnd)]; exact q
    frzs := fun b o v q => by rw [upd_ne (at_ne ha q exo_frz), upd_ne (ne_of_none q hnd)]; exact q
    tbls := fun b ps q => ⟨#[], by rw [upd_ne (at_ne ha q exo_tbl), upd_ne (ne_of_none q hnd), q]; simp⟩ }
  have hok2 : HOk P w (upd (upd H dx (exd dx [("row", v)])) a (exo a C (some dx))) h' := fun b o q => by
    by_cases hb : b = a
    · subst hb
      rw [upd_same] at q
      cases q
      exact exo_ok hx
    · rw [upd_ne hb] at q
      by_cases hd : b = dx
      · subst hd
        rw [upd_same] at q
        cases q
        exact exd_ok hn (relO_put (fs := []) r1 fun g => True.intro)
      · rw [upd_ne hd] at q
        exact (e0.hok b o q).stay (fun c v hc z => kk c v (by
            rcases hc with hc | hc
            · rw [hc]
              exact hb
            · exact at_ne ha hc exo_own) z)
          (fun c hc => by rw [upd_ne (at_ne ha hc exo_own), upd_ne (ne_of_none hc hnd)]; exact hc) (fun c xs hc => by rw [upd_ne (at_ne ha hc exo_tup), upd_ne (ne_of_none hc hnd)]; exact hc)
  have fin : CE outer P w H ⟨hp, g, d, tk, os⟩ Q .none ⟨h', g, d, tk', os⟩ := ⟨.non, _, rfl, e0.bare, Un1, hok2, rfl, hq dx hnd dne⟩
  exact PySem.wpAt_of_wpAny (wpAny_pure fin)
theorem bt_len {vs : List V} {H : Hp} {Q : VK} {E : XK} (h : spBt C vs H Q E) : vs.length = (["self", "row"] : List Str).length := by
  obtain ⟨a, v, rfl, _⟩ := h
  rfl
theorem bt_fn (B : BtD K file C fI) (T : BtC K C fI) (hP : (P.main.file : Str) = file) (htop : (P.main.scope.names.lookup ("super" : Str)).isSome = false) (mgs : mg "super" = none) :
    ∃ fd, Binds K fd ["self", "row"] [] ∧ (∀ CX : CXT, FnOk P w K mg base CX 1 fI fd ["self", "row"] (spBt C)) ∧ ∀ CX : CXT, L2H.FnH P w K mg base CX 1 fI fd ["self", "row"] (spBt C) := by
  obtain ⟨fd, hb, h⟩ := bt_run (w := w) (base := base) B T hP htop mgs
  exact ⟨fd, hb, fun CX => ⟨fun _ _ _ _ z => bt_len z, fun A outer s H args us vs Q E hr => h CX A outer s H args us vs Q E hr.depth⟩, fun CX => ⟨fun _ _ _ _ z => bt_len z, fun A outer s H args us vs Q E p hr _ _ => h CX A outer s H args us vs Q E hr.depth⟩⟩
end
end DL
set_option Elab.async false
set_option linter.all false
set_option maxRecDepth 100000
set_option maxHeartbeats 4000000
namespace DL
open PySem PySem.Spec PyProof PyProof.Rows L2
/-- all that is asked of such a class -/
structure ExcR (P : Program) (w : World) (K : PySem.W.Frag) (mg : Str → Option Value) (base : Heap) (M : Mp) (c : Nat) (x : Str) : Prop where
  g : mg x = some (.ref (M.exc c))
  r : M.row = "row"
  t : ∃ fI fd, BtC K (M.exc c) fI ∧ Binds K fd ["self", "row"] [] ∧ (∀ CX : CXT, FnOk P w K mg base CX 1 fI fd ["self", "row"] (spBt (M.exc c))) ∧ ∀ CX : CXT, L2H.FnH P w K mg base CX 1 fI fd ["self", "row"] (spBt (M.exc c))
section
variable {X : Cx} {W : WX} {M : Mp} {c : Nat} {x : Str} {e : Expr} {es : List Expr} {ta : TA} {p pos pos2 : Pos}
theorem pmk_oexN {CX : CXT} {C fI : Addr} {k : Nat} {fd : FuncData} {ps : List Str} {sp : Sp} (T : OexC X.K C) (iC : PySem.W.findIn X.K (.ref C) "__init__" = some (some (.ref fI))) (tI : PySem.W.typeIn X.K (.ref fI) = some (.type "function"))
    (F1 : FnOk X.prog X.w X.K X.mg X.base CX k fI fd ps sp) (hr : Room (k + 1) X.A) (hb : Binds X.K fd ps []) (hx : Passes CX X (fun _ _ _ => False)) (hg : Gl X x) (hm : X.mg x = some (.ref C)) (ha : PA X (e :: es) ta)
    (hdb : (x == ("__debug__" : Str)) = false := by decide) (he : starEach (e :: es) X.env = (false, eval e X.env) :: starEach es X.env := by rfl) (hpl : (backTo pos (starEach es X.env)).any (·.1) = false := by rfl) :
    L2N.PMk X (.Call (.Name x p) (e :: es) [] pos) (tMkO C sp [] ta) := by
  intro pins s σ H Q I h
  obtain ⟨nm, q, N, bs, bm, sn, sub, ab, col, dd, k0, k1, k2, k3, k5, hC, hbm⟩ := T.cls
  refine wpAny_Call_Name_kw (ld_glob I hg hm ?_ hdb)
  refine PySem.W.callWith_K (h₀ := X.base) I.ok.mod.kin T.kC (thn (ha.run pos pins s σ H _ I h) fun us s1 ⟨vs, H1, I1, r1, hz, q1⟩ => ⟨I1.kIn, ?_⟩) he hpl
  show wpAny _ _ (call (.ref C) us) _ _ _
  obtain ⟨hp, g, dr, tk, os⟩ := s1
  have hsz : hp.objs.size ≤ hp.objs.size + 1 := Nat.le_succ _
  have hn : H1 (hp.objs.size + 1) = none := I1.hok.fresh hsz
  have hq := q1 (hp.objs.size + 1) hn
  rw [List.append_nil] at hq
  have kk : ∀ b o, hp.get? b = some o → ((hp.push (PySem.W.kdv_tup us)).push (PySem.HandSPX.excO C hp.objs.size)).get? b = some o := fun b o e => Heap.get?_push_of_some _ (Heap.get?_push_of_some _ e)
  have hget : ((hp.push (PySem.W.kdv_tup us)).push (PySem.HandSPX.excO C hp.objs.size)).get? (hp.objs.size + 1) = some (PySem.HandSPX.excO C hp.objs.size) := by heap_get
  have I2 : Inv X pins σ (upd H1 (hp.objs.size + 1) (exo (hp.objs.size + 1) C none)) ⟨(hp.push (PySem.W.kdv_tup us)).push (PySem.HandSPX.excO C hp.objs.size), g, dr, tk, os⟩ :=
    I1.laid (t' := tk) (a := hp.objs.size + 1) (o := exo (hp.objs.size + 1) C none) (h' := (hp.push (PySem.W.kdv_tup us)).push (PySem.HandSPX.excO C hp.objs.size)) kk hsz (exo_ok hget)
  have r2 : Vals (V.ref (hp.objs.size + 1) :: vs) (Value.ref (hp.objs.size + 1) :: us) := .cons rfl r1
  have hl : (Value.ref (hp.objs.size + 1) :: us ++ []).length = ps.length := by
    have e := r2.length
    rw [F1.len _ _ _ _ hq] at e
    rw [List.append_nil]
    exact e.symm
  have hus : us.length ≤ sizeLine := by
    rw [← Paired.length r1, sizeLine_eq]
    omega
  have b2 := hb _ (Value.ref (hp.objs.size + 1) :: us) I2.kIn hl
  rw [List.append_nil] at b2
  refine wpAny_call (PySem.HandSPX.call_own PySem.F.excBase_ValueError (fun Y => PySem.HandSPX.refsVE_contains Y bm hbm) (I1.kIn _ _ hC) (PySem.W.looks_findIn I1.kIn iC) (fun self => PySem.W.bind_fn I1.kIn self tI) hus
    (codeAny_mono (F1.run _ X.stack _ _ ⟨Value.ref (hp.objs.size + 1) :: us, []⟩ (Value.ref (hp.objs.size + 1) :: us) _ _ (fun _ _ _ => False) (hr.make C us []) (I2.env0.make C us []) b2 r2 hq) fun r s' hq' => ?_))
  cases r with
  | error er => exact hx pins σ _ _ er s' I2 hq'
  | ok fl =>
    cases fl with
    | ret u =>
      obtain ⟨v, H2, os2, bare2, un2, hok2, rv, ev, d, fs, ea, ed, hd1, q2⟩ := hq'
      subst ev
      obtain ⟨h2, g2, d2, t2, os'⟩ := s'
      obtain ⟨t0, G, J, kG, ge, hoe, na⟩ := mk_end0 (d2 := d2) (t2 := t2) I1 hsz kk un2 hok2 os2 bare2 ea ed hd1
      refine ⟨rv, hp.objs.size + 1, _, _, ⟨G, g2, d2, t2, os'⟩, _, .ref C, some d, rfl, J, kG, ge, hoe, ⟨rfl, rfl, fun vs hv => ?_⟩, rfl, rfl, na, rfl, bare2, raises_own T.exC T.tyC, q2⟩
      cases hv
      rfl
    | next => exact False.elim hq'
    | brk => exact False.elim hq'
    | cont => exact False.elim hq'
theorem pmk_of {t : L2.St → Hp → XK → Prop} (h : L2N.PMk X e t) : PMk X e t := fun pins s σ H Q I q => thn (h pins s σ H Q I q) fun _ _ ⟨a, oe, vs, sI, H', cls, d, e1, J, k, hne, ha, hz, hd, h1, na, os, ag, r, q⟩ => ⟨a, oe, vs, sI, H', cls, d, e1, J, k, hne, ha, hz.zc, hd, h1, na, os, ag, r, q⟩
def raiseR (c : Nat) (g : Env → DS → R (List D)) : Env → DS → F := fun η s => (g η s).toF η fun ds s1 => .ex c ds η s1
theorem upd_row {H1 : Hp} {a dx : Addr} {o1 o2 o3 o4 : HO} (ha : H1 a = none) (hne : dx ≠ a) : upd (del (upd (upd (upd H1 a o1) dx o2) a o3) a) dx o4 = upd H1 dx o4 := by
  funext b
  by_cases hb : b = dx
  · subst hb
    rw [upd_same, upd_same]
  · rw [upd_ne hb, upd_ne hb]
    by_cases hba : b = a
    · subst hba
      rw [del_same, ha]
    · rw [del_ne hba, upd_ne hba, upd_ne hb, upd_ne hba]
/-- what is asked of the run: the one argument is handed on -/
theorem raiseR_sem {K : PySem.W.Frag} {g : Env → DS → R (List D)} {ta : TA} {Wx : WX} {C : Addr} (hC : C = M.exc c) (hrow : M.row = "row") (h1 : ∀ η s ds s', g η s = .ok ds s' → ds.length = 1) (ka : AEx M X W ta g) :
    SEx M X W (fun _ σ H => tMkO C (spBt C) [] ta σ H fun cls d H' => W cls d σ H') (raiseR c g) := by
  subst hC
  intro A σ H G hs own η s En I hp
  refine ka A σ H G hs own η s _ I ?_
  have hp2 := FPost.lift I hp
  cases q : g η s with
  | ok ds s1 =>
    rw [q] at hp2
    intro G1 hs1 H1 S1 J1 vs hvs
    have l1 := h1 η s ds s1 q
    obtain ⟨d, rfl⟩ : ∃ d, ds = [d] := List.length_eq_one_iff.mp l1
    obtain ⟨v, vr, rfl, rv, rn⟩ := repL_cons.mp hvs
    cases repL_nil.mp rn
    refine ⟨by show 1 ≤ 1000; decide, fun a na => ⟨a, v, rfl, upd_same, fun dx hdx hne => ?_⟩⟩
    have hdx1 : H1 dx = none := by rwa [upd_ne hne] at hdx
    refine ⟨rfl, dx, _, upd_same, by rw [upd_ne hne, upd_same], hdx1, ?_⟩
    rw [upd_row na hne]
    obtain ⟨S2, J2⟩ := J1.laid (o := .xd [("row", v)]) hdx1
    exact hp2 G1 hs1 H1 S1 J1 σ _ _ hs1 own (.ref (M.exc c)) (some dx) ((I.step S1 J1).step S2 J2) ⟨rfl, .inr ⟨d, v, dx, rfl, rv.mono S2.gg S2.hp, rfl, by rw [upd_same, hrow]⟩⟩
  | ex c p s1 => rw [q] at hp2; exact hp2
  | bad => rw [q] at hp2; exact hp2
theorem ds_raiseR {a : Expr} {g : Env → DS → R (List D)} (E : ExcR X.prog X.w X.K X.mg X.base M c x) (tk : Takes X W) (hc : X.calm = true) (hr : Room 2 X.A) (ha : DA M X W [a] g) (hg : Gl X x := by rfl)
    (hdb : (x == ("__debug__" : Str)) = false := by decide) (he : starEach [a] X.env = (false, eval a X.env) :: starEach [] X.env := by rfl) (hpl : (backTo pos (starEach [] X.env)).any (·.1) = false := by rfl)
    (h1 : ∀ η s ds s', g η s = .ok ds s' → ds.length = 1 := by exact one_len) :
    DSt M X W (.Raise (some (.Call (.Name x p) [a] [] pos)) none pos2) (raiseR c g) := by
  obtain ⟨t, pa, h⟩ := ha.ex
  obtain ⟨fI, fd, T, hb, F1, _⟩ := E.t
  exact ⟨_, ps_raise hc tk (pmk_of (pmk_oexN T.oex T.ini T.tI (F1 CX0) hr hb pass0 hg E.g pa hdb he hpl)), raiseR_sem (K := X.K) (Wx := W) rfl E.r h1 h⟩
end
theorem raiseR_eq {c : Nat} {g : Env → DS → R (List D)} {η : Env} {s : DS} : raiseR c g η s = (g η s).toF η fun ds s1 => .ex c ds η s1 := rfl
end DL
set_option Elab.async false
set_option linter.all false
set_option maxRecDepth 100000
set_option maxHeartbeats 4000000
namespace DL
open PySem PySem.Spec PyProof PyProof.Rows L2
def cellB (K : PySem.W.Frag) (C cc : Addr) : Bool := match K.lookup cc with
  | some ⟨_, _, .cell (some (.ref D)), _⟩ => D == C
  | _ => false
def fileB (K : PySem.W.Frag) (file : Str) (cda : Addr) : Bool := match K.lookup cda with
  | some ⟨_, _, .fields vs, _⟩ => (match (vs[2]? : Option Value) with
    | some (Value.str f _) => f == file
    | _ => false)
  | _ => false
def scopeB (sc : Scope) : Bool := decide (sc.kind = .function) && (decide (sc.isCoroutine = false) && (decide (sc.isGenerator = false) && ((sc.names.all fun x => decide (x.2 ≠ .cell)) && (decide (sc.names.lookup ("super" : Str) = some .globalImplicit) &&
  (decide (sc.names.lookup ("__class__" : Str) = some .free) && (decide (sc.names.lookup ("self" : Str) = some .local) && decide (sc.names.lookup ("row" : Str) = some .local)))))))
def fdB (K : PySem.W.Frag) (file : Str) (C : Addr) (fd : FuncData) : Bool := match fd.params, fd.body, fd.closure, fd.code with
  | ⟨[], [⟨a1, none, _⟩, ⟨a2, none, _⟩], none, [], [], none, []⟩, .stmts [.Expr (.Call (.Attribute (.Call (.Name sp _) [] [] _) ini p2) [.Constant (.str _) _ _] [] p4) _, .Assign [.Attribute (.Name sf _) rw _] (.Name rw2 _) _], [(cn, cc)], .ref cda =>
    decide (a1 = "self" ∧ a2 = "row" ∧ sp = "super" ∧ ini = "__init__" ∧ sf = "self" ∧ rw = "row" ∧ rw2 = "row" ∧ cn = "__class__") && (decide (fd.globals = mainGlobals) && (decide (fd.builtins = builtinsNs) && (decide (fd.defaults = .none) &&
      (PySem.W.codeIn K (.ref cda) fd.qualname && (scopeB fd.scope && ((p2.endLine == p4.line) && (fileB K file cda && cellB K C cc)))))))
  | _, _, _, _ => false
def oexB (K : PySem.W.Frag) (C : Addr) : Bool := (match K.lookup C with
  | some ⟨.type T, dd, .cls cd, sl⟩ => decide (T = "type") && (match cd.mro, sl.toList with
    | .ref C' :: bm, [_, _, _, _, some (.builtin n), _] => decide (C' = C) && (decide (n = "ValueError.__new__") && (decide (cd.hasDel = false) && (decide (cd.hasDict = true) && PySem.HandSPX.refsVE bm)))
    | _, _ => false)
  | _ => false) && (He.eqO (PySem.W.findIn K (.ref C) "__setattr__") (some (some (.builtin "object.__setattr__"))) && (decide (PySem.W.subIn K (.ref C) (.type "BaseException") = some true) && (decide (PySem.W.typeIn K (.ref C) = some (.type "type")) && PySem.W.keepIn K (.ref C))))
def btB (K : PySem.W.Frag) (file : Str) (C : Addr) : Bool := oexB K C && (match PySem.W.findIn K (.ref C) "__init__" with
  | some (some (.ref fI)) => decide (PySem.W.typeIn K (.ref fI) = some (.type "function")) && (match K.lookup fI with
    | some ⟨_, _, .func fd, _⟩ => fdB K file C fd
    | _ => false)
  | _ => false) && (decide (PySem.W.mroIn K C (.ref C) = some true) && (He.eqO (PySem.W.nsIn K cStatics "thirdparty.any") (some none) && (He.eqO (PySem.W.ks_superIn K C C "__init__") (some (some (.builtin "ValueError.__init__"))) &&
    (decide (PySem.W.subIn K (.ref C) (.type "ValueError") = some true) && (PySem.W.excInitIn K C [.type "ValueError", .type "Exception", .type "BaseException", .type "object"] "ValueError.__new__" && He.eqO (PySem.W.findIn K (.ref C) "row") (some none))))))
theorem oexB_ok {K : PySem.W.Frag} {C : Addr} (h : oexB K C = true) : OexC K C := by
  unfold oexB at h
  simp only [Bool.and_eq_true] at h
  obtain ⟨h1, h2, h3, h4, h5⟩ := h
  refine ⟨?_, He.eqO_ok h2, of_decide_eq_true h3, of_decide_eq_true h4, h5⟩
  split at h1
  · rename_i T dd cd sl hl
    simp only [Bool.and_eq_true] at h1
    obtain ⟨hT, h1⟩ := h1
    have hT := of_decide_eq_true hT
    subst hT
    split at h1
    · rename_i C' bm k0 k1 k2 k3 n k5 hm hs
      simp only [Bool.and_eq_true] at h1
      obtain ⟨a1, a2, a3, a4, a5⟩ := h1
      have c1 := of_decide_eq_true a1
      have c2 := of_decide_eq_true a2
      have c3 := of_decide_eq_true a3
      have c4 := of_decide_eq_true a4
      clear a1 a2 a3 a4
      subst c1; subst c2
      obtain ⟨nm, bs, mro, ns, qn, hd, sn, sub, ab, col, del⟩ := cd
      dsimp only at hm c3 c4
      subst hm; subst c3; subst c4
      have hsl : sl = #[k0, k1, k2, k3, some (.builtin "ValueError.__new__"), k5] := by
        obtain ⟨l⟩ := sl
        simp only at hs
        rw [hs]
      subst hsl
      exact ⟨nm, qn, ns, bs, bm, sn, sub, ab, col, dd, k0, k1, k2, k3, k5, hl, a5⟩
    · cases h1
  · cases h1
theorem btB_ok {K : PySem.W.Frag} {file : Str} {C : Addr} (h : btB K file C = true) : ∃ fI, BtD K file C fI ∧ BtC K C fI := by
  unfold btB at h
  simp only [Bool.and_eq_true] at h
  obtain ⟨⟨h1, h2⟩, h3, h4, h5, h6, h7, h8⟩ := h
  split at h2
  · rename_i fI hi
    simp only [Bool.and_eq_true] at h2
    obtain ⟨hT, h2⟩ := h2
    refine ⟨fI, ?_, ⟨oexB_ok h1, hi, of_decide_eq_true hT, of_decide_eq_true h3, He.eqO_ok h4, He.eqO_ok h5, of_decide_eq_true h6, h7, He.eqO_ok h8⟩⟩
    split at h2
    · rename_i oc od fd osl hl
      unfold fdB at h2
      obtain ⟨n1, n2, n3, n4, n5, n6, n7, n8, n9, n10, n11, n12, n13, n14, n15⟩ := fd
      dsimp only at h2
      split at h2
      · rename_i a1 q1 a2 q2 sp p0 p1 ini p2 msg j p3 p4 p5 sf p6 rw' p7 rw2 p8 p9 cn cc cda
        simp only [Bool.and_eq_true] at h2
        obtain ⟨b1, b2, b3, b4, b5, b6, b7, b8, b9⟩ := h2
        obtain ⟨rfl, rfl, rfl, rfl, rfl, rfl, rfl, rfl⟩ := of_decide_eq_true b1
        have c2 : n6 = mainGlobals := of_decide_eq_true b2
        have c3 : n15 = builtinsNs := of_decide_eq_true b3
        have c4 : n8 = .none := of_decide_eq_true b4
        clear b2 b3 b4
        subst c2; subst c3; subst c4
        unfold scopeB at b6
        simp only [Bool.and_eq_true] at b6
        obtain ⟨s1, s2, s3, s4, s5, s6, s7, s8⟩ := b6
        unfold fileB at b8
        split at b8
        · rename_i oc2 od2 vs2 sl2 hl2
          split at b8
          · rename_i f tf hv
            have b8 : f = file := by simpa using b8
            subst b8
            unfold cellB at b9
            split at b9
            · rename_i oc3 od3 D sl3 hl3
              have b9 : D = C := by simpa using b9
              subst b9
              exact ⟨oc, od, osl, n1, n2, _, _, _, _, _, _, _, _, _, _, _, _, _, _, n5, n9, n10, n11, n14, n12, cda, cc, oc2, od2, vs2, sl2, tf, oc3, od3, sl3, hl, b5, of_decide_eq_true s1, of_decide_eq_true s2, of_decide_eq_true s3, fun x hx => of_decide_eq_true (List.all_eq_true.mp s4 x hx), of_decide_eq_true s5, of_decide_eq_true s6, of_decide_eq_true s7, of_decide_eq_true s8, hl2, hv, b7, hl3⟩
            · cases b9
          · cases b8
        · cases b8
      · cases h2
    · cases h2
  · cases h2
theorem excR_of {P : Program} {w : World} {K : PySem.W.Frag} {mg : Str → Option Value} {base : Heap} {M : Mp} {c : Nat} {x file : Str} (h : btB K file (M.exc c) = true) (hP : (P.main.file : Str) = file) (htop : (P.main.scope.names.lookup ("super" : Str)).isSome = false) (mgs : mg "super" = none)
    (hg : mg x = some (.ref (M.exc c))) (hr : M.row = "row") : ExcR P w K mg base M c x := by
  obtain ⟨fI, B, T⟩ := btB_ok h
  obtain ⟨fd, hb, h1, h2⟩ := bt_fn (P := P) (w := w) (mg := mg) (base := base) B T hP htop mgs
  exact ⟨hg, hr, fI, fd, T, hb, h1, h2⟩
end DL
set_option Elab.async false
set_option linter.all false
set_option maxRecDepth 100000
set_option maxHeartbeats 4000000
namespace DL
open PySem PySem.Spec PyProof PyProof.Rows L2
def isStr : D → Bool
  | .str _ => true
  | _ => false
def splitO : D → List D → Option D
  | .str a, [.str b] => if (b.length == 0) = false ∧ a.length + 2 ≤ 16777216 then some (.lst ((Txt.split a b).map D.str)) else none
  | _, _ => none
section
variable {M : Mp} {X : Cx} {W : WX} {K : PySem.W.Frag}
theorem ty_str {G H : Hp} {hs : List Addr} {x : D} {v : V} (h : RV K M G hs H x v) (e : isStr x = true) : tyV K "str" v H := by
  cases x <;> try cases e
  rw [h.str]
  rfl
theorem repL_strs {G : Hp} {hs : List Addr} : ∀ {ys : List Str} {vs : List V}, RepL K M G hs (ys.map D.str) vs → vs = ys.map V.str
  | [], vs, h => repL_nil.mp h
  | y :: ys, vs, h => by
    obtain ⟨v, vr, rfl, h1, h2⟩ := repL_cons.mp h
    rw [rep_str.mp h1, repL_strs h2]
    rfl
theorem repL_ofStrs {G : Hp} {hs : List Addr} : ∀ {ys : List Str}, RepL K M G hs (ys.map D.str) (ys.map V.str)
  | [] => repL_nil.mpr rfl
  | y :: ys => repL_cons.mpr ⟨_, _, rfl, rep_str.mpr rfl, repL_ofStrs⟩
theorem md_split : MthD M X "str" "str.split" isStr splitO := by
  refine ⟨_, mt_split, fun G hs s H x v J h e => ty_str h e, fun G hs s H x z ds v vs Q J hv hvs e k => ?_⟩
  unfold splitO at e
  split at e
  · rename_i a b
    split at e
    · rename_i hz
      cases e
      obtain ⟨u, rfl, hd⟩ := hvs.one
      refine ⟨a, b, hv.str, by rw [hd.str], hz.1, by rw [sizeLine_eq]; exact hz.2, fun p hp => ?_⟩
      obtain ⟨S, J'⟩ := J.laid (o := .lst ((Txt.split a b).map V.str)) hp
      exact k _ _ S J' _ (rep_lst.mpr ⟨p, _, rfl, upd_same, repL_ofStrs⟩)
    · cases e
  · cases e
end
theorem splitO_s {a b : Str} (h : (b.length == 0) = false ∧ a.length + 2 ≤ 16777216) : splitO (.str a) [.str b] = some (.lst ((Txt.split a b).map D.str)) := if_pos h
end DL
set_option Elab.async false
set_option linter.all false
set_option maxRecDepth 100000
set_option maxHeartbeats 4000000
namespace DL
open PySem PySem.Spec PyProof PyProof.Rows L2
end DL
set_option Elab.async false
set_option linter.all false
set_option maxRecDepth 100000
set_option maxHeartbeats 4000000
namespace DL
open PySem PySem.Spec PyProof PyProof.Rows L2
end DL
set_option Elab.async false
set_option linter.all false
set_option maxRecDepth 100000
set_option maxHeartbeats 4000000
namespace DL
open PySem PySem.Spec PyProof PyProof.Rows L2
end DL
set_option Elab.async false
set_option linter.all false
set_option maxRecDepth 100000
set_option maxHeartbeats 4000000
namespace DL
open PySem PySem.Spec PyProof.Rows L2
end DL
set_option Elab.async false
set_option linter.all false
set_option maxRecDepth 100000
set_option maxHeartbeats 4000000
namespace DL
open PySem PySem.Spec PyProof.Rows L2
end DL
set_option Elab.async false
set_option linter.all false
set_option maxRecDepth 100000
set_option maxHeartbeats 4000000
namespace DL
open PySem PySem.Spec PyProof PyProof.Rows L2
section
variable {M : Mp} {X : Cx} {W : WX} {K : PySem.W.Frag}
theorem con_sqT {l : List Str} {n : Nat} {a : Addr} (hc : conB K n (.tup (l.map D.str)) (.ref a) = true) (H : Hp) : SqT K H a (l.map V.str) := by
  let M0 : Mp := { cls := fun _ => 0, flds := fun _ => [], exc := fun _ => 0, row := "", raw := false, tabs := { l := [], kq := none, kn := fun _ _ => "" } }
  obtain ⟨v, r1, r2⟩ := con_rep (M := M0) rfl n (.tup (l.map D.str)) (.ref a) hc
  obtain ⟨b, vs, rfl, h1, h2⟩ := rep_tup (r2 (fun _ => none) [])
  cases (show Value.ref a = Value.ref b from r1)
  rw [repL_strs h2] at h1
  exact same_seqT (fun _ _ z => by cases z) h1
theorem flt_strsC {a : Str} {l : List Str} : flt (.str a) (l.map D.str) = true := by
  unfold flt
  have : (l.map D.str).all isS = true := by
    rw [List.all_map]
    exact List.all_eq_true.mpr fun _ _ => rfl
  rw [this]
  rfl
theorem any_strsC {a : Str} : ∀ l : List Str, ((l.map D.str).any fun y => eqB y (.str a)) = decide (a ∈ l)
  | [] => rfl
  | b :: l => by
    rw [List.map_cons, List.any_cons, any_strsC l]
    have e : eqB (.str b) (.str a) = decide (b = a) := rfl
    rw [e]
    by_cases h : b = a
    · subst h; simp
    · have h2 : ¬ a = b := fun z => h z.symm
      simp [h, h2]
def inCO (neg : Bool) (l : List Str) : D → Option D
  | .str a => some (.bl (if neg then !(decide (a ∈ l)) else decide (a ∈ l)))
  | _ => none
theorem inC_run {neg : Bool} {l : List Str} {a : Addr} {n : Nat} {ta : TE} {fa : Env → DS → R D} (ka : BEx M X W ta fa) (hc : conB X.K n (.tup (l.map D.str)) (.ref a) = true)
    {A : Anc} {σ : L2.St} {H G : Hp} {hs : List Addr} {own : Nat → Addr} {η : Env} {s : DS} {Q : VK} (I : Sm X.K M A σ H G hs own η s) (hp : RPost X.K M σ W G hs H (uopD (inCO neg l) fa η s) (fun d G' hs' _ H' => ∀ v, Rep X.K M G' hs' d v → Q v H')) :
    tOp (rIn X.K neg) ta (tC (.ref a)) σ H Q := by
  show ta σ H fun x H1 => rIn X.K neg x (.ref a) H1 Q
  refine ka A σ H G hs own η s _ I (hp.bind.mono fun x G1 hs1 s1 H1 S1 J1 h1 v hv => ?_)
  obtain ⟨z, e, k⟩ := h1.ofO
  have hv := hv.read J1
  unfold inCO at e
  split at e
  · rename_i b hb
    cases e
    rw [hb] at hv
    obtain ⟨i1, i2, i3⟩ := in_flat (flt_strsC (a := b) (l := l)) (hv.flt (s := s1) (flt_strsC (l := l))) (repL_ofStrs (K := X.K) (M := M) (G := G1) (hs := hs1) (ys := l))
    rw [any_strsC] at i3
    refine ⟨a, l.map V.str, rfl, .inr (con_sqT hc H1), i1, i2, ?_⟩
    rw [i3]
    exact k G1 hs1 H1 (Stp.refl _ _ _ _) J1 _ (rep_bl.mpr rfl)
  · cases e
theorem dt_ninC {x : Str} {l : List Str} {n : Nat} {e : Expr} {a : Addr} {fa : Env → DS → R D} {px pos : Pos} (he : DB M X W e fa) (hx : X.mg x = some (.ref a)) (hc : conB X.K n (.tup (l.map D.str)) (.ref a) = true) (hgx : Gl X x := by rfl) (hdx : (x == ("__debug__" : Str)) = false := by decide) :
    DT M X W (.Compare e [.NotIn] [.Name x px] pos) (tstD (uopD (inCO true l) fa)) := by
  obtain ⟨ta, pa, ka⟩ := he.ex
  exact ⟨_, pt_cmpR op_notIn_seq pa (pe_glob (v := .ref a) hgx hx rfl hdx) rfl, fun A σ H G hs own η s Q I hp => tst_run (f := uopD (inCO true l) fa) (fun Q hp => inC_run ka hc I hp) hp⟩
end
theorem inCO_s {neg : Bool} {l : List Str} {a : Str} : inCO neg l (.str a) = some (.bl (if neg then !(decide (a ∈ l)) else decide (a ∈ l))) := rfl
end DL
set_option Elab.async false
set_option linter.all false
set_option maxRecDepth 100000
set_option maxHeartbeats 4000000
namespace DL
open PySem PySem.Spec PyProof.Rows L2
/-- a lambda's text -/
structure Lm where
  ps : Arguments
  bd : Expr
  sc : Scope
/-- a function object -/
def FunO (f : Addr) (q : Str) (l : Lm) (cl : List (Str × Addr)) (c' : Addr) : HO := .ext fun h => ∃ pm ctv, h.get? f = some (PySem.W.kla_obj "<lambda>" q l.ps l.bd l.sc cl pm c' ctv)
/-- the lambdas of a frame -/
def cloP (env : PySem.Env) (ls : List Lm) : Hp → Nat → Addr → List V → Prop := fun G n a vs => vs = [] ∧ ∃ l c', ls[n]? = some l ∧ G a = some (FunO a (env.qual ++ "<lambda>") l (cloFrom env.cells l.sc.names []) c') ∧ G c' = some (LamX.CodeO c' (env.qual ++ "<lambda>"))
theorem cloP_mono {env : PySem.Env} {ls : List Lm} (G G' : Hp) (n : Nat) (a : Addr) (vs : List V) (e : Same G G') (h : cloP env ls G n a vs) : cloP env ls G' n a vs := by
  obtain ⟨h1, l, c', h2, h3, h4⟩ := h
  exact ⟨h1, l, c', h2, e _ _ h3, e _ _ h4⟩
/-- what tells of closures -/
structure Clo where
  f : Hp → Nat → Addr → List V → Prop
  m : ∀ (G G' : Hp) (n : Nat) (a : Addr) (vs : List V), Same G G' → f G n a vs → f G' n a vs
def Clo.nil : Clo := ⟨fun _ _ _ _ => False, fun _ _ _ _ _ _ h => h⟩
def Clo.of (env : PySem.Env) (ls : List Lm) : Clo := ⟨cloP env ls, cloP_mono⟩
def Mp.wc (M : Mp) (φ : Clo) : Mp := { M with clo := φ.f, cloM := φ.m }
mutual
def noClo : D → Bool
  | .clo _ _ => false
  | .tup l => noCloL l
  | .lst l => noCloL l
  | .tup0 l => noCloL l
  | .obj _ l => noCloL l
  | .dic l => noCloP l
  | .dit l => noCloP l
  | _ => true
def noCloL : List D → Bool
  | [] => true
  | d :: l => noClo d && noCloL l
def noCloP : List (D × D) → Bool
  | [] => true
  | (_, d) :: l => noClo d && noCloP l
end
section
variable {K : PySem.W.Frag} {M : Mp} {φ ψ : Clo} {G H : Hp} {hs : List Addr}
mutual
theorem Rep.wc : ∀ (d : D) (v : V), Rep K (M.wc φ) G hs d v → noClo d = true → Rep K (M.wc ψ) G hs d v
  | .non, _, h, _ => by unfold Rep at h ⊢; exact h
  | .bl _, _, h, _ => by unfold Rep at h ⊢; exact h
  | .int _, _, h, _ => by unfold Rep at h ⊢; exact h
  | .str _, _, h, _ => by unfold Rep at h ⊢; exact h
  | .tup ds, _, h, n => by
    unfold Rep at h ⊢
    unfold noClo at n
    obtain ⟨a, vs, h1, h2, h3⟩ := h
    exact ⟨a, vs, h1, h2, RepL.wc ds vs h3 n⟩
  | .lst ds, _, h, n => by
    unfold Rep at h ⊢
    unfold noClo at n
    obtain ⟨a, vs, h1, h2, h3⟩ := h
    exact ⟨a, vs, h1, h2, RepL.wc ds vs h3 n⟩
  | .dic kvs, _, h, n => by
    unfold Rep at h ⊢
    unfold noClo at n
    obtain ⟨a, o, l, h1, h2, h3⟩ := h
    exact ⟨a, o, l, h1, h2, RepD.wc kvs l h3 n⟩
  | .obj c ds, _, h, n => by
    unfold Rep at h ⊢
    unfold noClo at n
    obtain ⟨a, dx, fs, h1, h2, h3, h4⟩ := h
    exact ⟨a, dx, fs, h1, h2, h3, RepL.wc ds _ h4 n⟩
  | .han k, _, h, _ => by
    unfold Rep at h ⊢
    exact h
  | .scr l, _, h, _ => by
    unfold Rep at h ⊢
    exact h
  | .tup0 ds, _, h, n => by
    unfold Rep at h ⊢
    unfold noClo at n
    obtain ⟨a, o, vs, h1, h2, h3, h4, h5⟩ := h
    exact ⟨a, o, vs, h1, h2, h3, h4, RepL.wc ds vs h5 n⟩
  | .dit kvs, _, h, n => by
    unfold Rep at h ⊢
    unfold noClo at n
    obtain ⟨a, o, l, h1, h2, h3⟩ := h
    exact ⟨a, o, l, h1, h2, RepT.wc kvs l h3 n⟩
  | .clo m ds, _, _, n => by
    unfold noClo at n
    cases n
theorem RepL.wc : ∀ (ds : List D) (vs : List V), RepL K (M.wc φ) G hs ds vs → noCloL ds = true → RepL K (M.wc ψ) G hs ds vs
  | [], _, h, _ => by unfold RepL at h ⊢; exact h
  | d :: ds, _, h, n => by
    unfold RepL at h ⊢
    unfold noCloL at n
    rw [Bool.and_eq_true] at n
    obtain ⟨v, vr, h1, h2, h3⟩ := h
    exact ⟨v, vr, h1, Rep.wc d v h2 n.1, RepL.wc ds vr h3 n.2⟩
theorem RepD.wc : ∀ (ds : List (D × D)) (vs : List (Key × V)), RepD K (M.wc φ) G hs ds vs → noCloP ds = true → RepD K (M.wc ψ) G hs ds vs
  | [], _, h, _ => by unfold RepD at h ⊢; exact h
  | (k, d) :: ds, _, h, n => by
    unfold RepD at h ⊢
    unfold noCloP at n
    rw [Bool.and_eq_true] at n
    obtain ⟨k', v, vr, h1, h0, h2, h3⟩ := h
    exact ⟨k', v, vr, h1, h0, Rep.wc d v h2 n.1, RepD.wc ds vr h3 n.2⟩
theorem RepT.wc : ∀ (ds : List (D × D)) (vs : List (List Key × V)), RepT K (M.wc φ) G hs ds vs → noCloP ds = true → RepT K (M.wc ψ) G hs ds vs
  | [], _, h, _ => by unfold RepT at h ⊢; exact h
  | (k, d) :: ds, _, h, n => by
    unfold RepT at h ⊢
    unfold noCloP at n
    rw [Bool.and_eq_true] at n
    obtain ⟨k', v, vr, h1, h0, h2, h3⟩ := h
    exact ⟨k', v, vr, h1, h0, Rep.wc d v h2 n.1, RepT.wc ds vr h3 n.2⟩
end
theorem At.wc {a : Addr} : ∀ {d : D}, At K (M.wc φ) G hs H a d → noClo d = true → At K (M.wc ψ) G hs H a d
  | .lst ds, ⟨vs, h1, h2⟩, n => ⟨vs, h1, RepL.wc ds vs h2 (by unfold noClo at n; exact n)⟩
  | .dic kvs, ⟨vs, h1, h2⟩, n => ⟨vs, h1, RepD.wc kvs vs h2 (by unfold noClo at n; exact n)⟩
  | .dit kvs, ⟨vs, h1, h2⟩, n => ⟨vs, h1, RepT.wc kvs vs h2 (by unfold noClo at n; exact n)⟩
  | .obj c ds, ⟨dx, fs, h1, h2, h3⟩, n => ⟨dx, fs, h1, h2, RepL.wc ds _ h3 (by unfold noClo at n; exact n)⟩
theorem noCloL_get {l : List D} {k : Nat} {d : D} (h : noCloL l = true) (e : l[k]? = some d) : noClo d = true := by
  induction l generalizing k with
  | nil => simp at e
  | cons x l ih =>
    unfold noCloL at h
    rw [Bool.and_eq_true] at h
    cases k with
    | zero => simp at e; rw [← e]; exact h.1
    | succ k => exact ih h.2 (by simpa using e)
theorem Sim.wc {s : DS} (J : Sim K (M.wc φ) G hs s H) (n : noCloL s = true) : Sim K (M.wc ψ) G hs s H :=
  ⟨J.sub, J.len, J.nd, J.hG, fun k a d e1 e2 => (J.han k a d e1 e2).wc (noCloL_get n e2), J.tab, J.tG⟩
theorem Stp.wc {G' H' : Hp} {hs' : List Addr} (S : Stp (M.wc φ) G hs H G' hs' H') : Stp (M.wc ψ) G hs H G' hs' H' := ⟨S.gg, S.fr, S.hp, S.hf, S.kp, S.dm⟩
def noCloS : Sl → Bool
  | .v d => noClo d
  | .o d => noClo d
  | .no => true
theorem noCloE_get {η : Env} {k : Nat} {x : Sl} (h : η.all noCloS = true) (e : η[k]? = some x) : noCloS x = true := List.all_eq_true.mp h x (List.mem_of_getElem? e)
theorem Sm.wc {A : Anc} {σ : L2.St} {own : Nat → Addr} {η : Env} {s : DS} (I : Sm K (M.wc φ) A σ H G hs own η s) (n : η.all noCloS = true) (m : noCloL s = true) : Sm K (M.wc ψ) A σ H G hs own η s :=
  ⟨I.sim.wc m, I.stp.wc, fun i d e => by
    obtain ⟨v, h1, h2⟩ := I.pl i d e
    exact ⟨v, h1, h2.wc d v (noCloE_get n e)⟩, fun i d e => by
    obtain ⟨h1, h2, h3, h4, h5, h6⟩ := I.ow i d e
    exact ⟨h1, h2.wc (noCloE_get n e), h3, h4, h5, h6⟩, I.inj, I.el, I.sf⟩
theorem ExR.wc {c : Nat} {p : List D} {cls : Value} {dx : Option Addr} (h : ExR K (M.wc φ) G hs H c p cls dx) (n : noCloL p = true) : ExR K (M.wc ψ) G hs H c p cls dx := by
  obtain ⟨h1, h2⟩ := h
  refine ⟨h1, ?_⟩
  rcases h2 with h2 | ⟨d, v, dd, rfl, h3, h4, h5⟩
  · exact .inl h2
  · unfold noCloL at n
    rw [Bool.and_eq_true] at n
    exact .inr ⟨d, v, dd, rfl, h3.wc d v n.1, h4, h5⟩
end
def maskS (x : Sl) : Sl := if noCloS x = true then x else .no
/-- the names that hold closures are forgotten -/
def mask (η : Env) : Env := η.map maskS
theorem mask_get {η : Env} {i : Nat} {x : Sl} (h : (mask η)[i]? = some x) (n : x ≠ .no) : η[i]? = some x ∧ noCloS x = true := by
  unfold mask at h
  rw [List.getElem?_map, Option.map_eq_some_iff] at h
  obtain ⟨y, h1, h2⟩ := h
  unfold maskS at h2
  split at h2
  · rename_i q
    subst h2
    exact ⟨h1, q⟩
  · exact absurd h2.symm n
theorem mask_all {η : Env} : (mask η).all noCloS = true := List.all_eq_true.mpr fun x hx => by
  unfold mask at hx
  obtain ⟨y, _, rfl⟩ := List.mem_map.mp hx
  unfold maskS
  split
  · assumption
  · rfl
section
variable {K : PySem.W.Frag} {M : Mp} {A : Anc} {σ : L2.St} {G H : Hp} {hs : List Addr} {own : Nat → Addr} {η : Env} {s : DS}
theorem Sm.mask (I : Sm K M A σ H G hs own η s) : Sm K M A σ H G hs own (mask η) s :=
  ⟨I.sim, I.stp, fun i d e => I.pl i d (mask_get e (fun z => by cases z)).1, fun i d e => I.ow i d (mask_get e (fun z => by cases z)).1,
    fun i j d e a b => I.inj i j d e (mask_get a (fun z => by cases z)).1 (mask_get b (fun z => by cases z)).1, by unfold DL.mask; rw [List.length_map]; exact I.el, fun x d a b => I.sf x d a (mask_get b (fun z => by cases z)).1⟩
end
def wcK : F → F
  | .nx η s => if noCloL s = true then .nx (mask η) s else .bad
  | .bk η s => if noCloL s = true then .bk (mask η) s else .bad
  | .ct η s => if noCloL s = true then .ct (mask η) s else .bad
  | .rt d s => if noClo d = true ∧ noCloL s = true then .rt d s else .bad
  | .ex c p η s => if noCloL s = true ∧ noCloL p = true then .ex c p (mask η) s else .bad
  | .bad => .bad
/-- closures may be met within, not ahead, not behind -/
def wcB (g : Env → DS → F) : Env → DS → F := fun η s => if noCloL s = true then wcK (g (mask η) s) else .bad
section
variable {M : Mp} {X : Cx} {W : WX} {φ ψ : Clo}
theorem FPost.wc {A : Anc} {E : Ends} : ∀ {r : F}, FPost X.K (M.wc φ) A W E (wcK r) → FPost X.K (M.wc ψ) A W E r
  | .nx η s, h => by
    have h : FPost X.K (M.wc φ) A W E (if noCloL s = true then .nx (mask η) s else .bad) := h
    by_cases n : noCloL s = true
    · rw [if_pos n] at h
      exact fun σ H G hs own I => h σ H G hs own (I.mask.wc mask_all n)
    · rw [if_neg n] at h
      exact h.elim
  | .bk η s, h => by
    have h : FPost X.K (M.wc φ) A W E (if noCloL s = true then .bk (mask η) s else .bad) := h
    by_cases n : noCloL s = true
    · rw [if_pos n] at h
      exact fun σ H G hs own I => h σ H G hs own (I.mask.wc mask_all n)
    · rw [if_neg n] at h
      exact h.elim
  | .ct η s, h => by
    have h : FPost X.K (M.wc φ) A W E (if noCloL s = true then .ct (mask η) s else .bad) := h
    by_cases n : noCloL s = true
    · rw [if_pos n] at h
      exact fun σ H G hs own I => h σ H G hs own (I.mask.wc mask_all n)
    · rw [if_neg n] at h
      exact h.elim
  | .rt d s, h => by
    have h : FPost X.K (M.wc φ) A W E (if noClo d = true ∧ noCloL s = true then .rt d s else .bad) := h
    by_cases n : noClo d = true ∧ noCloL s = true
    · rw [if_pos n] at h
      exact fun H G hs v S J r => h H G hs v S.wc (J.wc n.2) (r.wc d v n.1)
    · rw [if_neg n] at h
      exact h.elim
  | .ex c p η s, h => by
    have h : FPost X.K (M.wc φ) A W E (if noCloL s = true ∧ noCloL p = true then .ex c p (mask η) s else .bad) := h
    by_cases n : noCloL s = true ∧ noCloL p = true
    · rw [if_pos n] at h
      exact fun σ H G hs own cls dx I x => h σ H G hs own cls dx (I.mask.wc mask_all n.1) (x.wc n.2)
    · rw [if_neg n] at h
      exact h.elim
  | .bad, h => h
theorem dss_wc {ss : List Stmt} {g : Env → DS → F} (h : DSs (M.wc ψ) X W ss g) : DSs (M.wc φ) X W ss (wcB g) := by
  obtain ⟨t, p, h⟩ := h.ex
  refine ⟨t, p, fun A σ H G hs own η s E I hp => ?_⟩
  unfold wcB at hp
  split at hp
  · rename_i n
    exact h A σ H G hs own _ s E (I.mask.wc mask_all n) hp.wc
  · exact hp.elim
end
section
variable {X : Cx} {pins : List (Addr × Obj)} {σ : L2.St} {H H1 : Hp} {s s1 : Shared}
/-- what is new and untracked is tracked from now on -/
theorem Inv.track {f : Addr} {o : HO} (I : Inv X pins σ H s) (I1 : Inv X pins σ H1 s1) (hf : s.heap.objs.size ≤ f) (n : H1 f = none) (ob : ObjOk X.prog X.w (upd H1 f o) s1.heap f o) : Inv X pins σ (upd H1 f o) s1 := by
  have nf : ∀ b u, H1 b = some u → b ≠ f := fun b u e => ne_of_none e n
  refine I1.step (ch := [f]) (g' := s1.gens) (d' := s1.drawn) (t' := s1.toks) (h' := s1.heap) (fun b hb => ?_) (fun b u _ _ _ e _ => e) (fun b u _ _ _ e _ => ⟨u.slots, e⟩) (fun b u hb _ e => ?_) (fun b u _ e => ⟨u, e⟩) (fun b xs e => ?_) (fun b u v e => ?_) (fun b qs e => ?_) (fun m e => e) (fun b u e => ?_) I1.bare
  · rw [List.mem_singleton.mp hb]
    refine ⟨.inr (Nat.le_trans I.sz hf), fun z => ?_, fun y c e z => ?_, fun p hp z => ?_⟩
    · rw [z] at hf
      exact absurd (Nat.lt_of_lt_of_le I.lt hf) (Nat.lt_irrefl _)
    · obtain ⟨v, u, hu, _⟩ := I.cell y c e
      rw [z] at hu
      exact absurd (Nat.lt_of_lt_of_le (Heap.lt_size hu) hf) (Nat.lt_irrefl _)
    · have := (I.pin p hp).1
      rw [z] at this
      exact absurd (Nat.lt_of_lt_of_le (Heap.lt_size this) hf) (Nat.lt_irrefl _)
  · rw [upd_ne (fun z => hb (by simp [z]))]
    exact e
  · rw [upd_ne (nf b _ e)]; exact e
  · rw [upd_ne (nf b _ e)]; exact e
  · exact ⟨#[], by rw [upd_ne (nf b _ e), e]; simp⟩
  · by_cases z : b = f
    · subst z
      rw [upd_same] at e
      cases e
      exact ob
    · rw [upd_ne z] at e
      exact (I1.hok b u e).stay (fun _ _ _ q => q) (fun d q => by rw [upd_ne (nf d _ q)]; exact q) fun d xs q => by rw [upd_ne (nf d _ q)]; exact q
theorem funO_ok {f c' : Addr} {q : Str} {l : Lm} {cl : List (Str × Addr)} {pm ctv : Value} {P : Program} {w : World} {h : Heap} (e : h.get? f = some (PySem.W.kla_obj "<lambda>" q l.ps l.bd l.sc cl pm c' ctv)) : ObjOk P w H h f (FunO f q l cl c') :=
  ⟨⟨pm, ctv, e⟩, ⟨_, e⟩, fun h1 h2 ⟨pm, ctv, a⟩ st => ⟨pm, ctv, st _ a⟩⟩
/-- the lambda's function object, tracked -/
theorem lam_track {T : Tbs} {c P : Addr} {l : Lm} {pos : Pos} {E : Value → Shared → Prop} {Q : Value → Shared → Prop} (I : Inv X pins σ H s) (TB : LamX.TabB X.base X.mg c P) (hcode : X.env.code = .ref c)
    (ht : HasT T P (X.env.qual ++ "<lambda>") pos) (hT : TabsX T H) (hdef : defaultsOf l.ps X.env = ([], [])) (hfree : ∀ y ∈ l.sc.names, y.2 = .free → ∃ c, X.env.cells.lookup y.1 = some c)
    (h : ∀ (f c' : Addr) (H1 : Hp) (s1 : Shared), Inv X pins σ (upd H1 f (FunO f (X.env.qual ++ "<lambda>") l (cloFrom X.env.cells l.sc.names []) c')) s1 → LamX.ExtN H H1 → TabsX T H1 → H f = none → H1 f = none →
      H1 c' = some (LamX.CodeO c' (X.env.qual ++ "<lambda>")) → (H c' = none ∨ H c' = some (LamX.CodeO c' (X.env.qual ++ "<lambda>"))) → Q (.ref f) s1) :
    wpAny (model X.prog X.w) X.A (eval (.Lambda l.ps l.bd l.sc pos) X.env) Q E s := by
  obtain ⟨ps, hP, hok, ha⟩ := tabN_at hT ht
  have gP := I.hok P _ hP
  have bl := TB.bm.keeps I.bk
  have cd := TB.code.keeps I.bk
  have gl := I.mod.glob.keeps I.bk
  refine PySem.W.kla_eval hdef ?_
  cases hc : codeAmong pos ps.toList with
  | some cv =>
    obtain ⟨c', rfl, hco⟩ := ha cv hc
    refine PySem.W.kla_makeFunctionHit (mg := X.mg) (closure_ok hfree) I.ok.glob gl hcode cd gP hok hc bl fun ctv h' tk kp hsz => ?_
    have J : Inv X pins σ H { s with heap := h'.push (PySem.W.kla_obj "<lambda>" (X.env.qual ++ "<lambda>") l.ps l.bd l.sc (cloFrom X.env.cells l.sc.names []) ((X.mg "__name__").getD .none) c' ctv), toks := tk } :=
      I.kept fun b o e => Heap.get?_push_of_some _ (kp b o e)
    exact h _ c' H _ (Inv.track I J hsz (I.hok.fresh hsz) (funO_ok (Heap.get?_push_size _ rfl))) (LamX.ExtN.refl H) hT (I.hok.fresh hsz) (I.hok.fresh hsz) hco (.inr hco)
  | none =>
    refine PySem.W.kla_makeFunction (mg := X.mg) (closure_ok hfree) I.ok.glob gl hcode cd gP hok hc TB.gP bl fun c' ctv h' tk kp hge hlt rec tb => ?_
    obtain ⟨d, oc, vs, t, ed, e1, e2, e3⟩ := rec
    cases ed
    have nC : H c' = none := I.hok.fresh hge
    have big : s.heap.objs.size ≤ h'.objs.size := Nat.le_trans hge (Nat.le_of_lt hlt)
    obtain ⟨g1, g2⟩ := tabN_grow hT ht hP nC
    have J := LamX.inv_table (q := X.env.qual ++ "<lambda>") (t' := tk) (more := #[rawInt pos.line, rawInt pos.col, .ref c']) (h' := h'.push (PySem.W.kla_obj "<lambda>" (X.env.qual ++ "<lambda>") l.ps l.bd l.sc (cloFrom X.env.cells l.sc.names []) ((X.mg "__name__").getD .none) c' ctv)) I hP
      (fun b o n e => Heap.get?_push_of_some _ (kp b o n e)) (Heap.get?_push_of_some _ tb) hge ⟨oc, vs, t, Heap.get?_push_of_some _ e1, e2, e3⟩
    have nf : upd (upd H P (.tbl (ps ++ #[rawInt pos.line, rawInt pos.col, .ref c']))) c' (LamX.CodeO c' (X.env.qual ++ "<lambda>")) h'.objs.size = none := by
      rw [upd_ne (Nat.ne_of_gt hlt), upd_ne (Nat.ne_of_gt (Nat.lt_of_lt_of_le (Heap.lt_size (show s.heap.get? P = some _ from gP)) big))]
      exact I.hok.fresh big
    exact h _ c' _ _ (Inv.track I J big nf (funO_ok (Heap.get?_push_size _ rfl))) g1 g2 (I.hok.fresh big) nf upd_same (.inl nC)
end
def tClo (T : Tbs) (q : Str) (l : Lm) (cl : List (Str × Addr)) : TE := fun _ H Q => TabsX T H ∧ ∀ f c' H1, LamX.ExtN H H1 → TabsX T H1 → H f = none → H1 f = none → H1 c' = some (LamX.CodeO c' q) → (H c' = none ∨ H c' = some (LamX.CodeO c' q)) → Q (.ref f) (upd H1 f (FunO f q l cl c'))
theorem code_fix {c : Addr} {q : Str} : fixO (LamX.CodeO c q) := .inr ⟨_, rfl, c, q, fun _ z => z⟩
def cloD (j : Nat) : Env → DS → R D := fun _ s => .ok (.clo j []) s
section
variable {M : Mp} {X : Cx} {W : WX} {ls : List Lm}
theorem pe_clo {T : Tbs} {c P : Addr} {l : Lm} {pos : Pos} (TB : LamX.TabB X.base X.mg c P) (hcode : X.env.code = .ref c) (ht : HasT T P (X.env.qual ++ "<lambda>") pos) (L : LamX.LamS X.env.scope l.sc) (hdef : defaultsOf l.ps X.env = ([], [])) :
    PE X (.Lambda l.ps l.bd l.sc pos) (tClo T (X.env.qual ++ "<lambda>") l (cloFrom X.env.cells l.sc.names [])) := by
  refine ⟨fun pins s σ H Q I h => ?_⟩
  exact lam_track I TB hcode ht h.1 hdef (L.has I.ok) fun f c' H1 s1 J e1 e2 e3 e4 e5 e6 => ⟨.ref f, _, J, rfl, h.2 f c' H1 e1 e2 e3 e4 e5 e6⟩
/-- a code object is held -/
theorem code_held {G H H1 : Hp} {hs : List Addr} {s : DS} {c : Addr} {q : Str} {K : PySem.W.Frag} (S : Stp M G hs H G hs H1) (J : Sim K M G hs s H1) (e : H1 c = some (LamX.CodeO c q)) (e0 : H c = none ∨ H c = some (LamX.CodeO c q)) : ∃ G1, Stp M G hs H G1 hs H1 ∧ Sim K M G1 hs s H1 ∧ G1 c = some (LamX.CodeO c q) := by
  cases g : G c with
  | some u =>
    have := J.sub c u g
    rw [e] at this
    cases this
    exact ⟨G, S, J, g⟩
  | none =>
    have nh : c ∉ hs := fun z => by
      obtain ⟨k, d, _, _, h⟩ := J.hanAt z
      exact h.nofix e code_fix
    have nt : ¬ inTab M c := fun z => by
      obtain ⟨ps, h⟩ := J.tabS z
      rw [e] at h
      cases h
    have no : ∀ ps, LamX.CodeO c q ≠ HO.tbl ps := LamX.codeO_ne
    refine ⟨upd G c (LamX.CodeO c q), ⟨same_upd g, fun a u h => ?_, S.hp, S.hf, S.kp, S.dm⟩, J.still e nh nt g no, upd_same⟩
    by_cases z : a = c
    · subst z
      rcases e0 with e0 | e0
      · exact .inr (.inl (nt_none e0))
      · exact .inr (.inr ⟨⟨_, e0, code_fix⟩, nh⟩)
    · rw [upd_ne z] at h
      exact S.fr a u h
theorem de_clo {c P : Addr} {params : Arguments} {body : Expr} {scope : Scope} {lpos : Pos} (j : Nat) (hj : ls[j]? = some ⟨params, body, scope⟩) (TB : LamX.TabB X.base X.mg c P) (hcode : X.env.code = .ref c) (hmT : HasT (M.wc (Clo.of X.env ls)).tabs P (X.env.qual ++ "<lambda>") lpos)
    (L : LamX.LamS X.env.scope scope := by exact LamX.lamS_by (by decide +kernel)) (hdef : defaultsOf params X.env = ([], []) := by rfl) : DE (M.wc (Clo.of X.env ls)) X W (.Lambda params body scope lpos) (cloD j) := by
  refine ⟨_, pe_clo (l := ⟨params, body, scope⟩) TB hcode hmT L hdef, fun A σ H G hs own η s Q I r => ⟨I.sim.tab, fun f c' H1 eN T1 f0 f1 e1 e0 => ?_⟩⟩
  obtain ⟨S1, J1⟩ := extN_step I.sim eN T1
  obtain ⟨G1, S2, J2, g⟩ := code_held S1 J1 e1 e0
  obtain ⟨S3, J3⟩ := J2.laid (o := FunO f (X.env.qual ++ "<lambda>") ⟨params, body, scope⟩ (cloFrom X.env.cells scope.names []) c') f1
  refine r _ hs _ (S2.trans S3) J3 _ (rep_clo.mpr ⟨f, [], rfl, ⟨rfl, ⟨params, body, scope⟩, c', hj, upd_same, ?_⟩, repL_nil.mpr rfl⟩)
  rw [upd_ne (ne_of_none e1 f1)]
  exact g
end
end DL
set_option Elab.async false
set_option linter.all false
set_option maxRecDepth 100000
set_option maxHeartbeats 4000000
namespace DL
open PySem PySem.Spec PyProof.Rows L2
abbrev lamQ (X : Cx) : Str := X.env.qual ++ "<lambda>"
abbrev lamCl (X : Cx) (l : Lm) : List (Str × Addr) := cloFrom X.env.cells l.sc.names []
section
variable {X : Cx} {pins : List (Addr × Obj)} {σ : L2.St} {H : Hp} {s : Shared}
/-- a() in the def that got the lambda: Z is that def's context, entered at s -/
theorem pe_act2 {CXg : CXT} {Eg : XK} {Ng : List Str} {qg : Str} {sg : Scope} {g f c' : Addr} {cdg : Value} {l : Lm} {k i : Nat} {a : Str} {pn : List (Addr × Obj)} {xe : Value → Shared → Prop} {W : WX} {E : XK} {tb : TE} {p1 p2 : Pos}
    (I : Inv X pins σ H s) (L : LamX.LamS X.env.scope l.sc)
    (hbind : ∀ (cl : List (Str × Addr)) (pm cv ctv : Value), bindArgs (PySem.W.kla_fn "<lambda>" (lamQ X) l.ps l.bd l.sc cl pm cv ctv) ⟨[], []⟩ = pure [])
    (tk : Takes ((cxOf CXg X.prog X.w X.K X.mg X.base Ng qg sg g cdg X.A X.stack s H Eg).tr pn xe) W) (hr : Room (k + 1) (X.A.deeper (envOfC qg sg s.heap.objs.size g cdg)))
    (hbody : ∀ (A : Around) (outer : List PySem.Env) (s : Shared) (H : Hp), Room k (A.deeper (LamX.lamEnv X l.sc s.heap.objs.size f c')) → PE (LamX.lamCx X A outer s H E l.sc f c') l.bd tb)
    (hN : Ng[i]? = some a) (hv : Vis sg a) (hd : (a == ("__debug__" : Str)) = false) (hcd : (a == ("__classdict__" : Str)) = false) :
    PE ((cxOf CXg X.prog X.w X.K X.mg X.base Ng qg sg g cdg X.A X.stack s H Eg).tr pn xe) (.Call (.Name a p1) [] [] p2)
      (fun σZ HZ Q => (∀ cls d H', E cls d H' → W cls d σZ H') ∧ σZ[i]? = some (some (.ref f)) ∧ HZ f = some (FunO f (lamQ X) l (lamCl X l) c') ∧ HZ c' = some (LamX.CodeO c' (lamQ X)) ∧ tb σ HZ Q) := by
  refine ⟨fun pinsZ sZ σZ HZ Q IZ h => ?_⟩
  obtain ⟨hW, h1, hF, hC, ht⟩ := h
  refine wpAny_Call_Name_kw (thn ((pe_var (pos := p1) (i := i) hN hv hd hcd).run pinsZ sZ σZ HZ (fun v H1 => v = .ref f ∧ H1 = HZ) IZ ⟨.ref f, h1, rfl, rfl⟩) fun u s1 ⟨v, H1, J, r1, q1⟩ => ?_)
  obtain ⟨ev, eH⟩ := q1
  subst ev eH
  obtain rfl : u = Value.ref f := r1
  obtain ⟨⟨pm, ctv, fAt⟩, _, _⟩ := J.hok f _ hF
  obtain ⟨⟨oc, vs, t, hoc, hdc, hvc⟩, _, _⟩ := J.hok c' _ hC
  refine PySem.W.callWith_F0 ⟨_, _, _, _, fAt⟩ ?_
  have un : Un (frs X.stack) [] H H1 s.heap s1.heap := J.base
  have run : codeAny (model X.prog X.w) (X.A.deeper (envOfC qg sg s.heap.objs.size g cdg)) (.call (.ref f) ⟨[], []⟩) (CR (L2.CX X.prog X.w) (envOfC qg sg s.heap.objs.size g cdg :: X.stack) X.prog X.w H1 s1 Q E) s1 := by
    refine PySem.W.kla_callFunE hr.depth fAt rfl L.co L.gen rfl ⟨c', oc, vs, t, rfl, hoc, hdc, hvc⟩ ?_
    rw [hbind]
    refine wpAny_pure (wpAny_newFunctionEnv (fun y hy => (L.own y hy).2) (fun y hy => absurd hy (by simp)) (fun h₁ hns hsb => ⟨J.nolimit.fresh _ hsb, ?_⟩) L.kind)
    show codeAny _ _ (.expr l.bd (LamX.lamEnv X l.sc s1.heap.objs.size f c')) _ _
    have kp : ∀ b o, s1.heap.get? b = some o → h₁.get? b = some o := fun b o e => hsb.extBut b o (Nat.ne_of_lt (Heap.lt_size e)) (Heap.get?_push_of_some _ e)
    have J2 := LamX.lam_start2 (E := E) (f := f) (c' := c') (tk := s1.toks + ([] : List (Str × Value)).length) I L J.env0 hr.hd un hns kp
    refine PySem.W.kla_codeExpr (wpAny_mono ((hbody _ _ s1 H1 (hr.deeper _)).run [] _ _ H1 Q J2 ht) (fun v s' ⟨w', H', J', rv, q⟩ => ⟨w', H', J'.os, J'.bare, J'.base, J'.hok, rv, q⟩) fun e s' hq => hq)
  refine wpAny_call (codeAny_mono run fun r s' hq => ?_)
  match r, hq with
  | .error e, hq => exact tk e s' (XE.of_call J hW hq)
  | .ok (.ret u), hq => exact J.after hq
  | .ok .next, hq => exact False.elim hq
  | .ok .brk, hq => exact False.elim hq
  | .ok .cont, hq => exact False.elim hq
end
abbrev CalC (X : Cx) (Ng : List Str) (x : Str) (sg : Scope) (g : Addr) (cdg : Value) (s : Shared) (H : Hp) : Cx := cxOf C8.CX0 X.prog X.w X.K X.mg X.base Ng x sg g cdg X.A X.stack s H C8.E0
/-- what the def makes of the lambda that it got -/
def GivesF (X : Cx) (Ng : List Str) (x : Str) (sg : Scope) (g : Addr) (cdg : Value) (bg : List Stmt) (a : Str) (TT : Addr → (XK → Hp → VK → Prop) → Hp → VK → Prop) : Prop :=
  ∀ (f c' : Addr) (l : Lm) (s : Shared) (H : Hp) (Q : VK) (tl : XK → Hp → VK → Prop),
    (∀ (W : WX) (pn : List (Addr × Obj)) (xe : Value → Shared → Prop) (E : XK) (p1 p2 : Pos), Takes ((CalC X Ng x sg g cdg s H).tr pn xe) W →
      PE ((CalC X Ng x sg g cdg s H).tr pn xe) (.Call (.Name a p1) [] [] p2) (fun σZ HZ Q => (∀ cls d H', E cls d H' → W cls d σZ H') ∧ σZ[0]? = some (some (.ref f)) ∧ HZ f = some (FunO f (lamQ X) l (lamCl X l) c') ∧ HZ c' = some (LamX.CodeO c' (lamQ X)) ∧ tl E HZ Q)) →
    H f = some (FunO f (lamQ X) l (lamCl X l) c') → H c' = some (LamX.CodeO c' (lamQ X)) → TT f tl H Q →
    ∃ t, PSs (CalC X Ng x sg g cdg s H).nox bg t ∧ t { nx := fun _ H' => Q .non H', rt := Q } (L2.start Ng [.ref f]) H
def tUnd (X : Cx) (ls : List Lm) (TT : Addr → (XK → Hp → VK → Prop) → Hp → VK → Prop) (t : Nat → XK → TE) (te : TE) : TE := fun σ H Q => te σ H fun v H1 => ∃ (j : Nat) (l : Lm) (f c' : Addr), v = .ref f ∧ ls[j]? = some l ∧ H1 f = some (FunO f (lamQ X) l (lamCl X l) c') ∧ H1 c' = some (LamX.CodeO c' (lamQ X)) ∧ TT f (fun E H' Q' => t j E σ H' Q') H1 Q
structure LmOk (X : Cx) (l : Lm) : Prop where
  L : LamX.LamS X.env.scope l.sc
  b : ∀ (q : Str) (cl : List (Str × Addr)) (pm cv ctv : Value), bindArgs (PySem.W.kla_fn "<lambda>" q l.ps l.bd l.sc cl pm cv ctv) ⟨[], []⟩ = pure []
theorem pe_under {X : Cx} {ls : List Lm} {TT : Addr → (XK → Hp → VK → Prop) → Hp → VK → Prop} {x a : Str} {g : Addr} {k : Nat} {pg : Arguments} {bg : List Stmt} {sg : Scope} {dV kV doc pm cdv ct oc : Value} {an od : Option Addr} {osl : Array (Option Value)} {Ng : List Str}
    {e : Expr} {te : TE} {t : Nat → XK → TE} {p pos : Pos} (hg : Gl X x) (hm : X.mg x = some (.ref g)) (hk : PySem.W.keepIn X.K (.ref g) = true)
    (lk : X.K.lookup g = some ⟨oc, od, .func (PySem.W.fnOf x x pg bg sg dV kV doc pm an cdv ct), osl⟩) (hcg : PySem.W.codeIn X.K cdv x = true) (hb : L2.Binds X.K (PySem.W.fnOf x x pg bg sg dV kV doc pm an cdv ct) [a] []) (Sg : FnScope Ng [a] sg) (hNg : Ng[0]? = some a) (hva : Vis sg a)
    (hG : GivesF X Ng x sg g cdv bg a TT) (he : PE X e te) (hr : Room (k + 2) X.A) (hL : ∀ (j : Nat) (l : Lm), ls[j]? = some l → LmOk X l)
    (hbody : ∀ (j : Nat) (l : Lm), ls[j]? = some l → ∀ (A : Around) (outer : List PySem.Env) (s : Shared) (H : Hp) (E : XK) (f c' : Addr), Room k (A.deeper (LamX.lamEnv X l.sc s.heap.objs.size f c')) → PE (LamX.lamCx X A outer s H E l.sc f c') l.bd (t j E))
    (hst : starEach [e] X.env = (false, eval e X.env) :: starEach [] X.env) (hdb : (x == ("__debug__" : Str)) = false) (hd : (a == ("__debug__" : Str)) = false) (hcd : (a == ("__classdict__" : Str)) = false) :
    PE X (.Call (.Name x p) [e] [] pos) (tUnd X ls TT t te) := by
  refine ⟨fun pins s σ H Q I h => wpAny_Call_Name_kw (ld_glob I hg hm (PySem.W.callWith_K (h₀ := X.base) I.ok.mod.kin hk ?_ (by rw [hst]) (by rfl)) hdb)⟩
  rw [hst]
  show wpAny _ _ (spliced ((false, eval e X.env) :: backTo pos (starEach [] X.env))) _ _ s
  refine Calls.spliced_cons (thn (he.run pins s σ H _ I h) fun u s1 ⟨v, H1, J, r1, j, l, f, c', ev, hj, hF, hC, hT⟩ => Calls.spliced_nil ⟨J.kIn, ?_⟩)
  subst ev
  obtain rfl : u = Value.ref f := r1
  have run : codeAny (model X.prog X.w) X.A (.call (.ref g) ⟨[.ref f], []⟩) (CR C8.CX0 X.stack X.prog X.w H1 s1 Q C8.E0) s1 :=
    LamX.run_ofS (N := Ng) (ps := [a]) (us := [.ref f]) (vs := [.ref f]) lk hcg Sg hr J.env0 (hb s1 [.ref f] J.kIn rfl) (.cons rfl .nil) rfl fun hr' => by
      obtain ⟨u, hu, hq⟩ := hG f c' l s1 H1 Q (fun E H' Q' => t j E σ H' Q') (fun W pn xe E p1 p2 tk => pe_act2 (i := 0) J (hL j l hj).L ((hL j l hj).b _) tk hr' (fun A outer s H hr2 => hbody j l hj A outer s H E f c' hr2) hNg hva hd hcd) hF hC hT
      exact ⟨u, hu.nox, hq⟩
  refine wpAny_call (codeAny_mono run fun r s2 hq => ?_)
  match r, hq with
  | .error e, hq => exact (show False from hq).elim
  | .ok (.ret u), hq => exact J.after hq
  | .ok .next, hq => exact False.elim hq
  | .ok .brk, hq => exact False.elim hq
  | .ok .cont, hq => exact False.elim hq
end DL
set_option Elab.async false
set_option linter.all false
set_option maxRecDepth 100000
set_option maxHeartbeats 4000000
namespace DLE
open PySem PySem.Calls PyProof.Rows Builtin Builtin.ObjectAttr Builtin.Getset_descriptor PySem.W
section
variable {prog : Program} {w : World} {A : Around} {E : Value → Shared → Prop} {s : Shared} {K : Frag} {x D : Addr}
/-- the object at x is of the class D -/
def OfC (x D : Addr) (h : Heap) : Prop := ∃ o, h.get? x = some o ∧ o.cls = .ref D
theorem OfC.type {M : Model} {h : Heap} (i : OfC x D h) : Looks M h (typeOf (.ref x)) (.ref D) := by
  obtain ⟨o, h1, h2⟩ := i
  exact h2 ▸ (Looks.ld h1).andThen .now
/-- a data descriptor is found ahead of the own dict -/
theorem looks_dataE {M : Model} {h : Heap} {name : Str} {a g : Value} (X : K.In h) (ha : findIn K (.ref D) name = some (some a)) (hg : specialIn K a "__get__" = some (some g)) (ht : takesIn K a = some true) : Looks M h (Builtin.ObjectAttr.find (.ref x) (.ref D) name) (.bind g a) := by
  refine (looks_findIn (M := M) X ha).andThen ((show Looks M h (getOf (some a)) (some g) from looks_specialIn X hg).andThen ?_)
  exact (show Looks M h (dataDescriptor? (some a) (some g)) (some (g, a)) from (looks_takesIn (M := M) X ht).andThen .now).andThen (Looks.tag .now)
theorem class_getE {R : Result → Shared → Prop} {tp : Value} (X : K.In s.heap) (i : OfC x D s.heap) (hm : mroIn K D (.type "object") = some true) (h : R (.ok (.ret (.ref D))) s) :
    codeAny (model prog w) A (.call (.builtin "getset_descriptor.__get__") ⟨[.builtin "object.__class__", .ref x, tp], []⟩) R s := by
  obtain ⟨hh, g, dr, t, os⟩ := s
  have t0 := i.type (M := model prog w)
  have t1 := looks_mroIn (M := model prog w) X hm
  refine codeAny_call_builtin KF.slot_gs.plain KF.entry_gs (KF.slot_gs.check _ _ _ _ _ _ _ _ KF.type_class (KF.args_gs _ _ _) ?_)
  unfold Builtin.«getset_descriptor.__get__» descrGet
  rw [dga_obj]
  refine wpAny_bind (wpAny_pure ?_)
  unfold descrGetter descrCheckInstance descrNameAndClass isInstance
  simp only [KF.owner_class]
  repeat lk
  refine ⟨Code.quiet_builtin _ (by decide +kernel), codeAny_builtin KF.entry_class ?_⟩
  unfold Builtin.«object.__class__» shownTypeOf
  repeat lk
  exact h
theorem exc_class {Q : Option Value → Shared → Prop} (C : L2.ExcC K D) (X : K.In s.heap) (i : OfC x D s.heap) (h : Q (some (.ref D)) { s with toks := s.toks + 1 }) : wpAny (model prog w) A (getAttr? (.ref x) "__class__") Q E s := by
  have found := @looks_dataE K x D (model prog w) s.heap "__class__" _ _ X C.ha C.hn C.ht
  obtain ⟨hp, g, d, t, os⟩ := s
  have t0 := i.type (M := model prog w)
  have own := looks_findIn (M := model prog w) X C.hg
  have hook := looks_findIn (M := model prog w) X C.hk
  have sub : Looks (model prog w) hp (isInstance (.ref x) (.type "BaseException")) true := t0.andThen (looks_subIn X C.hs)
  have ne : (Value.builtin "BaseException.__getattribute__" == Value.builtin "object.__getattribute__") = false := by decide +kernel
  have ne' : (onTheHeap (Value.ref D) && Value.builtin "BaseException.__getattribute__" == Value.builtin "object.__getattribute__") = false := by rw [ne]; rfl
  have off : (false && onTheHeap (Value.builtin "BaseException.__getattribute__")) = false := rfl
  unfold getAttr? getAttrBy? getAttrBy
  refine wpAny_bind (wpAny_mkText (wpAny_bind (wpAny_attempt (wpAny_holding (wpAny_bind (t0.at (wpAny_bind (own.at ?_))))))))
  show wpAny _ _ (if (onTheHeap (Value.ref D) && Value.builtin "BaseException.__getattribute__" == Value.builtin "object.__getattribute__") = true then _ else _) _ _ _
  rw [ne', if_neg Bool.false_ne_true]
  unfold getAttrByItsOwn hookBefore
  refine wpAny_bind ?_
  rw [if_pos (show onTheHeap (Value.ref D) = true from rfl)]
  refine hook.at (wpAny_bind (wpAny_attempt (wpAny_holding ?_)))
  unfold callGetattribute
  rw [off, if_neg Bool.false_ne_true]
  unfold boundAndCalled
  rw [PySem.F.excAttr_ValueError.ga.bind (.ref x)]
  refine wpAny_bind (wpAny_pure ?_)
  show wpAny _ _ (call (.builtin "BaseException.__getattribute__") [.ref x, .str "__class__" t]) _ _ _
  refine wpAny_call (codeAny_call_builtin PySem.F.excAttr_ValueError.ga.plain PySem.F.entry_bexc_ga ?_)
  refine @check_slot (model prog w) _ _ ⟨hp, g, d, t + 1, os⟩ "BaseException.__getattribute__" "BaseException" "__getattribute__" (.ref x) [.str "__class__" t] [] _ (by decide +kernel) (by decide +kernel) sub (PySem.F.args_bexc_ga (.ref x) (.str "__class__" t)) ?_
  unfold Builtin.«object.__getattribute__»
  refine wpAny_bind (wpAny_of_eq (a := ((Value.ref x : Value), [Value.str "__class__" t])) (by first | rfl | (simp only [slotArgs]; rfl)) ?_)
  refine wpAny_bind (wpAny_pure (wpAny_bind (t0.at (wpAny_bind (found.at ?_)))))
  show wpAny _ _ (holding [Value.builtin "object.__class__"] (call (.builtin "getset_descriptor.__get__") [.builtin "object.__class__", .ref x, .ref D]) >>= ret) _ _ _
  refine wpAny_bind (wpAny_holding (wpAny_call (class_getE (s := ⟨hp, g, d, t + 1, os⟩) X i C.hm (wpAny_pure ?_))))
  show wpAny _ _ (handedOut (.ref D)) _ _ _
  rw [handedOut_of (v := .ref D) rfl]
  first
    | exact wpAny_pure (wpAny_pure h)
    | exact wpAny_pure h
    | exact wpAny_pure (wpAny_bind (wpAny_pure (wpAny_pure h)))
theorem kitE (C : L2.ExcC K D) : KitX K (.ref x) (.ref D) (OfC x D) where
  ty := fun _ _ _ i => i.type
  it := fun _ _ X _ => by
    obtain ⟨cdD, hcD, _⟩ := any_some C.hd
    unfold clsIn at hcD
    split at hcD
    · rename_i c' d' cd' sl' ho
      intro A' Q' E' s' k q
      unfold isType loadHead
      exact wpAny_bind (wpAny_loadPart (k _ _ (X _ _ ho)) (wpAny_pure q))
    · cases hcD
  ne := fun h tp dd its n sl X htp => by
    obtain ⟨cdD, hcD, _⟩ := any_some C.hd
    refine Bool.eq_false_iff.mpr fun q => ?_
    have e : D = tp := Value.ref.inj (beq_iff_eq.mp q)
    subst e
    unfold clsIn at hcD
    split at hcD
    · rename_i c' d' cd' sl' ho
      have z := (X _ _ ho).symm.trans htp
      cases z
    · cases hcD
  ca := fun X i k => exc_class C X i k
end
end DLE
namespace DL
open PySem PySem.Spec PyProof.Rows L2
/-- isinstance(e, c), e the error that the suite holds -/
theorem call_isD {X : Cx} {a D : Addr} {dx : Option Addr} {oe : Obj} {pn : List (Addr × Obj)} (C : ExcC X.K D) (hz : Zc (.ref D) dx oe) : CallR (X.suite a ((a, oe) :: pn)) (.builtin "isinstance") (rIsE X.K D a) := by
  intro pins s σ H xs us Q I r h
  obtain ⟨c, cv, b, rfl, hcv, e, q⟩ := h
  cases r with
  | cons rx rr =>
    cases rr with
    | cons rt rr =>
      cases rr
      cases rx
      have ec := hcv _ rt
      subst ec
      obtain ⟨hget, _⟩ := I.pin (a, oe) (List.mem_append.mpr (.inl List.mem_cons_self))
      exact PySem.W.kia_one (DLE.kitE C) I.kIn ⟨oe, hget, hz.1⟩ e (fun z => nomatch z) fun tk => ⟨.bl b, H, I.kept (t' := tk) fun _ _ z => z, rfl, q⟩
/-- in an except suite the error at a is known as the closure 0 -/
def Ecl (a : Addr) : Clo := ⟨fun _ n b vs => n = 0 ∧ b = a ∧ vs = [], fun _ _ _ _ _ _ h => h⟩
def isED (i : Nat) (b : Bool) : Env → DS → R D := fun η s => match η[i]? with
  | some (.v (.clo 0 [])) => .ok (.bl b) s
  | _ => .bad
section
variable {M : Mp} {X : Cx} {W : WX}
theorem de_isE {a D : Addr} {dx : Option Addr} {oe : Obj} {pn : List (Addr × Obj)} {i : Nat} {n x : Str} {v : V} {cv : Value} {b : Bool} {p1 p2 p3 pos : Pos} (C : ExcC X.K D) (hz : Zc (.ref D) dx oe)
    (hu : ∀ u, RelV v u → u = cv) (pt : PE (X.suite a ((a, oe) :: pn)) (.Name x p3) (tC v)) (hb : PySem.W.kitOne X.K (.ref D) cv = some b) (hm : X.mg "isinstance" = none)
    (hN : X.N[i]? = some n := by rfl) (hv : Vis X.env.scope n := by first | exact Or.inl rfl | exact Or.inr (Or.inl rfl) | exact Or.inr (Or.inr rfl)) (hg : Gl X "isinstance" := by rfl) (hd : (n == ("__debug__" : Str)) = false := by decide) (hcd : (n == ("__classdict__" : Str)) = false := by decide) :
    DE (M.wc (Ecl a)) (X.suite a ((a, oe) :: pn)) W (.Call (.Name "isinstance" p1) [.Name n p2, .Name x p3] [] pos) (isED i b) := by
  refine ⟨_, pe_callB (call_isD C hz) hg hm rfl (pa_cons (pe_var (i := i) hN hv hd hcd) (pa_cons pt pa_nil)), fun A σ H G hs own η s Q I r => ?_⟩
  unfold isED at r
  split at r
  · rename_i e
    obtain ⟨w, h1, h2⟩ := I.pl i _ e
    obtain ⟨b', vs, rfl, ⟨_, rfl, rfl⟩, _⟩ := rep_clo.mp h2
    exact ⟨_, h1, v, cv, b, rfl, hu, hb, r G hs H (Stp.refl _ _ _ _) I.sim _ (rep_bl.mpr rfl)⟩
  · exact r.elim
/-- an own class; ValueError -/
theorem de_isO {a D C' : Addr} {dx : Option Addr} {oe : Obj} {pn : List (Addr × Obj)} (i : Nat) {n x : Str} {b : Bool} {p1 p2 p3 pos : Pos} (C : ExcC X.K D) (hz : Zc (.ref D) dx oe) (hx : X.mg x = some (.ref C')) (hb : PySem.W.kitOne X.K (.ref D) (.ref C') = some b) (hm : X.mg "isinstance" = none)
    (hN : X.N[i]? = some n := by rfl) (hv : Vis X.env.scope n := by first | exact Or.inl rfl | exact Or.inr (Or.inl rfl) | exact Or.inr (Or.inr rfl)) (hg : Gl X "isinstance" := by rfl) (hgx : Gl X x := by rfl) (hdx : (x == ("__debug__" : Str)) = false := by decide) (hd : (n == ("__debug__" : Str)) = false := by decide) (hcd : (n == ("__classdict__" : Str)) = false := by decide) :
    DE (M.wc (Ecl a)) (X.suite a ((a, oe) :: pn)) W (.Call (.Name "isinstance" p1) [.Name n p2, .Name x p3] [] pos) (isED i b) := de_isE (v := .ref C') C hz (fun _ r => r) (pe_glob hgx hx rfl hdx) hb hm hN hv hg hd hcd
theorem de_isT {a D : Addr} {T : String} {dx : Option Addr} {oe : Obj} {pn : List (Addr × Obj)} (i : Nat) {n x : Str} {b : Bool} {p1 p2 p3 pos : Pos} (C : ExcC X.K D) (hz : Zc (.ref D) dx oe) (hx : X.mg x = none) (hbl : bootBuiltins x = some (.type T)) (hb : PySem.W.kitOne X.K (.ref D) (.type T) = some b) (hm : X.mg "isinstance" = none)
    (hN : X.N[i]? = some n := by rfl) (hv : Vis X.env.scope n := by first | exact Or.inl rfl | exact Or.inr (Or.inl rfl) | exact Or.inr (Or.inr rfl)) (hg : Gl X "isinstance" := by rfl) (hgx : Gl X x := by rfl) (hdx : (x == ("__debug__" : Str)) = false := by decide) (hnx : x ≠ "__name__" := by decide) (hd : (n == ("__debug__" : Str)) = false := by decide) (hcd : (n == ("__classdict__" : Str)) = false := by decide) :
    DE (M.wc (Ecl a)) (X.suite a ((a, oe) :: pn)) W (.Call (.Name "isinstance" p1) [.Name n p2, .Name x p3] [] pos) (isED i b) := de_isE (v := .ty T) C hz (fun _ r => r) (pe_bltn hgx hx hbl rfl hnx hdx) hb hm hN hv hg hd hcd
end
def nosE (n : Nat) : Env := List.replicate n .no
def excE (n i : Nat) : Env := (nosE n).set i (.v (.clo 0 []))
def retR : F → R D
  | .rt d s => if noClo d = true ∧ noCloL s = true then .ok d s else .bad
  | _ => .bad
def undK (n i : Nat) (cs : List Nat) (gs : Nat → Env → DS → F) (gr : Env → DS → F) : R D → R D
  | .ok _ s2 => retR (gr (nosE n) s2)
  | .ex c _ s2 => if cs.contains c = true ∧ noCloL s2 = true then retR (gs c (excE n i) s2) else .bad
  | .bad => .bad
/-- the j-th lambda is called within a try: its error is asked -/
def undD (n i : Nat) (cs : List Nat) (fbs : List (Env → DS → R D)) (gs : Nat → Env → DS → F) (gr : Env → DS → F) (fe : Env → DS → R D) : Env → DS → R D := fun η s => (fe η s).bind fun d s1 => match d with
  | .clo j [] => (match fbs[j]? with
    | some fb => undK n i cs gs gr (fb η s1)
    | none => .bad)
  | _ => .bad
section
variable {M : Mp} {X : Cx} {W : WX}
theorem sm_nos {K : PySem.W.Frag} {M : Mp} {σ : L2.St} {G H : Hp} {hs : List Addr} {s : DS} {n : Nat} (J : Sim K M G hs s H) (hl : n = σ.length) : Sm K M ⟨G, hs, H, none⟩ σ H G hs (fun _ => 0) (nosE n) s := by
  have no : ∀ {i : Nat} {x : Sl}, (nosE n)[i]? = some x → x = .no := fun {i x} e => by
    unfold nosE at e
    rw [List.getElem?_replicate] at e
    split at e
    · cases e; rfl
    · cases e
  exact ⟨J, Stp.refl _ _ _ _, fun i d e => (by cases no e), fun i d e => (by cases no e), fun i j d e a b => (by cases no a), by unfold nosE; rw [List.length_replicate]; exact hl, fun x d a b => (by cases a)⟩
theorem sm_exc {K : PySem.W.Frag} {M : Mp} {σ : L2.St} {G H : Hp} {hs : List Addr} {s : DS} {n i : Nat} {a : Addr} (J : Sim K (M.wc (Ecl a)) G hs s H) (hl : n = σ.length) (hi : i < n) : Sm K (M.wc (Ecl a)) ⟨G, hs, H, none⟩ (σ.set i (some (.ref a))) H G hs (fun _ => 0) (excE n i) s := by
  have at_ : ∀ {j : Nat} {x : Sl}, (excE n i)[j]? = some x → x ≠ .no → j = i ∧ x = .v (.clo 0 []) := fun {j x} e ne => by
    unfold excE nosE at e
    rw [List.getElem?_set] at e
    split at e
    · rename_i h
      split at e
      · cases e; exact ⟨h.symm, rfl⟩
      · cases e
    · rw [List.getElem?_replicate] at e
      split at e
      · cases e; exact absurd rfl ne
      · cases e
  refine ⟨J, Stp.refl _ _ _ _, fun j d e => ?_, fun j d e => ?_, fun j j' d e z _ => ?_, ?_, fun x d z _ => by cases z⟩
  · obtain ⟨rfl, q⟩ := at_ e (fun z => by cases z)
    cases q
    exact ⟨.ref a, by rw [List.getElem?_set_self (by rw [← hl]; exact hi)], rep_clo.mpr ⟨a, [], rfl, ⟨rfl, rfl, rfl⟩, repL_nil.mpr rfl⟩⟩
  · cases (at_ e (fun z => by cases z)).2
  · cases (at_ z (fun z => by cases z)).2
  · unfold excE nosE
    rw [List.length_set, List.length_set, List.length_replicate]
    exact hl
end
end DL
set_option Elab.async false
set_option linter.all false
set_option maxRecDepth 100000
set_option maxHeartbeats 4000000
namespace DL
open PySem PySem.Spec PyProof.Rows L2
section
variable {M : Mp} {X : Cx} {W : WX}
/-- the suite's reading, for the error that came -/
def suiT (M : Mp) (cs : List Nat) (T : Nat → Addr → Obj → List (Addr × Obj) → Option Addr → TS) : Addr → Value → Option Addr → TS := fun a cls d D σ H => ∃ c, cls = .ref (M.exc c) ∧ c ∈ cs ∧ ∀ oe pn, Zc cls d oe → T c a oe pn d D σ H
def undT (M : Mp) (K : PySem.W.Frag) (mill : Value) (i : Nat) (cs : List Nat) (Ng : List Str) (T : Nat → Addr → Obj → List (Addr × Obj) → Option Addr → TS) (U : TS) : Addr → (XK → Hp → VK → Prop) → Hp → VK → Prop := fun f tl H Q =>
  tl (fun cls d H' => PySem.W.exmOne K cls mill = some true ∧ ∀ a, H' a = none → ∀ D : Ends, D.rt = Q → suiT M cs T a cls d D ((L2.start Ng [V.ref f]).set i (some (.ref a))) H') H (fun _ H' => U { nx := fun _ H' => Q .non H', rt := Q } (L2.start Ng [V.ref f]) H')
theorem under_gives {Ng : List Str} {x a en xn : Str} {sg : Scope} {g : Addr} {cdg mill : Value} {i : Nat} {cs : List Nat} {p1 p2 p3 p4 p5 p6 : Pos} {b₀ : Stmt} {suite tail : List Stmt} {T : Nat → Addr → Obj → List (Addr × Obj) → Option Addr → TS} {U : TS}
    (hnd : Ng.Nodup) (hi : Ng[i]? = some en) (hN0 : Ng[0]? = some a) (hne : i ≠ 0) (hln : sg.names.lookup en = some .local) (hx1 : sg.names.lookup xn = some .globalImplicit) (hx2 : X.mg xn = some mill) (hx3 : (xn == ("__debug__" : Str)) = false)
    (hs : ∀ (s : Shared) (H : Hp) (c : Nat) (dx : Option Addr) (a : Addr) (oe : Obj) (pn : List (Addr × Obj)), c ∈ cs → Zc (.ref (M.exc c)) dx oe → PSs ((CalC X Ng x sg g cdg s H).nox.suite a ((a, oe) :: pn)) (b₀ :: suite) (T c a oe ((a, oe) :: pn) dx))
    (hu : ∀ (s : Shared) (H : Hp), PSs (CalC X Ng x sg g cdg s H).nox tail U) :
    GivesF X Ng x sg g cdg (.Try [.Expr (.Call (.Name a p1) [] [] p2) p3] [.ExceptHandler (some (.Name xn p4)) (some en) (b₀ :: suite) p5] [] [] p6 :: tail) a (undT M X.K mill i cs Ng T U) := by
  intro f c' l s H Q tl act hF hC hT
  refine ⟨_, pss_cons (ps_try_as (X := (CalC X Ng x sg g cdg s H).nox) (c := mill) (i := i) (Wout := fun _ _ _ _ => False) (ts := suiT M cs T)
      (tb := fun W D σ H => ∃ Ech : XK, (∀ cls d H', Ech cls d H' → W cls d σ H') ∧ σ[0]? = some (some (.ref f)) ∧ H f = some (FunO f (lamQ X) l (lamCl X l) c') ∧ H c' = some (LamX.CodeO c' (lamQ X)) ∧ tl Ech H fun _ H' => D.nx σ H')
      rfl rfl hnd hi (by unfold PySem.Env.kindOf; exact hln) ⟨hx1, hx3, .inl hx2⟩ LamX.takes0 (fun W pn xe tk _ => ?_) (fun a oe cls d pn hz _ => ?_)) (hu s H), ?_⟩
  · refine ⟨fun pins s' σ H' D I h' => ?_⟩
    obtain ⟨Ech, hW, h1, h2, h3, h4⟩ := h'
    exact (pss_one (ps_expr (pos := p3) (act W pn xe Ech p1 p2 tk))).run pins s' σ H' D I ⟨hW, h1, h2, h3, h4⟩
  · refine ⟨fun pins s' σ H' D I h' => ?_⟩
    obtain ⟨c, rfl, hc, h⟩ := h'
    exact (hs s H c d a oe pn hc hz).run pins s' σ H' D I (h oe _ hz)
  · refine ⟨_, fun cls d H' hh => ?_, start_get rfl, hF, hC, hT⟩
    obtain ⟨h1, h2⟩ := hh
    exact ⟨true, h1, fun _ a na => h2 a na _ rfl, fun z => by cases z⟩
theorem lams_body {k : Nat} {ls : List Lm} {fbs : List (Env → DS → R D)} (h : ∀ (j : Nat) (l : Lm), ls[j]? = some l → ∃ fb, fbs[j]? = some fb ∧ ∀ (A : Around) (outer : List PySem.Env) (s : Shared) (H : Hp) (E : XK) (f c' : Addr), Room k (A.deeper (LamX.lamEnv X l.sc s.heap.objs.size f c')) → DE M (LamX.lamCx X A outer s H E l.sc f c') (WofE E) l.bd fb) :
    ∃ t : Nat → XK → TE, ∀ (j : Nat) (l : Lm), ls[j]? = some l → (∀ (A : Around) (outer : List PySem.Env) (s : Shared) (H : Hp) (E : XK) (f c' : Addr), Room k (A.deeper (LamX.lamEnv X l.sc s.heap.objs.size f c')) → PE (LamX.lamCx X A outer s H E l.sc f c') l.bd (t j E)) ∧ ∃ fb, fbs[j]? = some fb ∧ ∀ E, EEx M X (WofE E) (t j E) fb := by
  have one : ∀ j : Nat, ∃ t : XK → TE, ∀ l, ls[j]? = some l → (∀ (A : Around) (outer : List PySem.Env) (s : Shared) (H : Hp) (E : XK) (f c' : Addr), Room k (A.deeper (LamX.lamEnv X l.sc s.heap.objs.size f c')) → PE (LamX.lamCx X A outer s H E l.sc f c') l.bd (t E)) ∧ ∃ fb, fbs[j]? = some fb ∧ ∀ E, EEx M X (WofE E) (t E) fb := fun j => by
    cases e : ls[j]? with
    | none => exact ⟨fun _ _ _ _ => False, fun l z => by cases z⟩
    | some l =>
      obtain ⟨fb, h1, h2⟩ := h j l e
      obtain ⟨t, h3, h4⟩ := lam_body h2
      exact ⟨t, fun l' z => by cases z; exact ⟨h3, fb, h1, h4⟩⟩
  exact ⟨fun j => Classical.choose (one j), fun j => Classical.choose_spec (one j)⟩
theorem de_under {x a en xn : Str} {g : Addr} {k i : Nat} {st : Stmt} {fd : FuncData} {Ng : List Str} {e : Expr} {fe : Env → DS → R D} {ls : List Lm} {fbs : List (Env → DS → R D)} {cs : List Nat} {mill : Value} {b₀ : Stmt} {suite tail : List Stmt} {gs : Nat → Env → DS → F} {gr : Env → DS → F} {p pos p1 p2 p3 p4 p5 p6 : Pos}
    (Fu : Fun X.K x x st g fd) (hb : L2.Binds X.K fd [a] []) (Sg : FnScope Ng [a] (defScope st)) (hbd : defBody st = .Try [.Expr (.Call (.Name a p1) [] [] p2) p3] [.ExceptHandler (some (.Name xn p4)) (some en) (b₀ :: suite) p5] [] [] p6 :: tail)
    (he : DE (M.wc (Clo.of X.env ls)) X W e fe) (hL : ∀ (j : Nat) (l : Lm), ls[j]? = some l → LmOk X l)
    (hbody : ∀ (j : Nat) (l : Lm), ls[j]? = some l → ∃ fb, fbs[j]? = some fb ∧ ∀ (A : Around) (outer : List PySem.Env) (s : Shared) (H : Hp) (E : XK) (f c' : Addr), Room k (A.deeper (LamX.lamEnv X l.sc s.heap.objs.size f c')) → DE (M.wc (Clo.of X.env ls)) (LamX.lamCx X A outer s H E l.sc f c') (WofE E) l.bd fb)
    (hx : ∀ c ∈ cs, PySem.W.exmOne X.K (.ref (M.exc c)) mill = some true)
    (hsu : ∀ (cdv : Value) (s : Shared) (H : Hp) (c : Nat) (dx : Option Addr) (a : Addr) (oe : Obj) (pn : List (Addr × Obj)), c ∈ cs → Zc (.ref (M.exc c)) dx oe → DSs (M.wc (Ecl a)) ((CalC X Ng x (defScope st) g cdv s H).nox.suite a ((a, oe) :: pn)) W0 (b₀ :: suite) (gs c))
    (htl : ∀ (cdv : Value) (s : Shared) (H : Hp), DSs (M.wc (Clo.of X.env ls)) (CalC X Ng x (defScope st) g cdv s H).nox W0 tail gr)
    (hm : X.mg x = some (.ref g)) (hr : Room (k + 2) X.A) (hx2 : X.mg xn = some mill) (hx1 : (defScope st).names.lookup xn = some .globalImplicit := by rfl) (hNg : Ng[0]? = some a := by rfl) (hi : Ng[i]? = some en := by rfl) (hne : i ≠ 0 := by decide) (hva : Vis (defScope st) a := by first | exact Or.inl rfl | exact Or.inr (Or.inl rfl) | exact Or.inr (Or.inr rfl)) (hln : (defScope st).names.lookup en = some .local := by rfl)
    (hg : Gl X x := by rfl) (hst : starEach [e] X.env = (false, eval e X.env) :: starEach [] X.env := by rfl) (hdb : (x == ("__debug__" : Str)) = false := by decide) (hx3 : (xn == ("__debug__" : Str)) = false := by decide) (hd : (a == ("__debug__" : Str)) = false := by decide) (hcd : (a == ("__classdict__" : Str)) = false := by decide) :
    DE (M.wc (Clo.of X.env ls)) X W (.Call (.Name x p) [e] [] pos) (undD Ng.length i cs fbs gs gr fe) := by
  obtain ⟨t, ht⟩ := lams_body hbody
  obtain ⟨te, pt, ke⟩ := he.ex
  obtain ⟨⟨oc, od, kV, doc, pm, an, cdv, ct, osl, rfl, lk, hcd2⟩, kp⟩ := Fu
  have hlen : ∀ f : Addr, Ng.length = (L2.start Ng [V.ref f]).length := fun f => by
    rw [start_len]
    have : 0 < Ng.length := (List.getElem?_eq_some_iff.mp hNg).1
    simp only [List.length_cons, List.length_nil]
    omega
  have hil : i < Ng.length := (List.getElem?_eq_some_iff.mp hi).1
  refine ⟨_, pe_under (ls := ls) (t := t) (k := k) (TT := undT M X.K mill i cs Ng (fun c a oe pn dx D σ H => ∀ (s0 : Shared) (H0 : Hp) (hc : c ∈ cs) (hz : Zc (.ref (M.exc c)) dx oe) (pn2 : List (Addr × Obj)) (hp : pn = (a, oe) :: pn2), Classical.choose (hsu cdv s0 H0 c dx a oe pn2 hc hz).ex D σ H) (fun D σ H => ∀ s0 H0, Classical.choose (htl cdv s0 H0).ex D σ H))
    hg hm kp lk hcd2 hb Sg hNg hva (hbd ▸ under_gives Sg.nd hi hNg hne hln hx1 hx2 hx3 (fun s H c dx a oe pn hc hz => ⟨fun pins s' σ H' D I h' => (Classical.choose_spec (hsu cdv s H c dx a oe pn hc hz).ex).1.run pins s' σ H' D I (h' s H hc hz pn rfl)⟩) (fun s H => ⟨fun pins s' σ H' D I h' => (Classical.choose_spec (htl cdv s H).ex).1.run pins s' σ H' D I (h' s H)⟩))
    pt hr hL (fun j l hj => (ht j l hj).1) hst hdb hd hcd, fun A σ H G hs own η s Q I hp => ?_⟩
  refine ke A σ H G hs own η s _ I (hp.bind.mono fun d G1 hs1 s1 H1 S1 J1 h1 v hv => ?_)
  split at h1
  · rename_i j
    split at h1
    · rename_i fb hfb
      obtain ⟨f, vs, rfl, ⟨rfl, l, c', hj, hF, hC⟩, _⟩ := rep_clo.mp hv
      refine ⟨j, l, f, c', rfl, hj, J1.sub _ _ hF, J1.sub _ _ hC, ?_⟩
      obtain ⟨fb', hfb', kE⟩ := (ht j l hj).2
      rw [hfb] at hfb'
      cases hfb'
      refine kE _ A σ H1 G1 hs1 own η s1 _ (I.step S1 J1) ?_
      cases q : fb η s1 with
      | bad => rw [q] at h1; exact h1.elim
      | ok d2 s2 =>
        rw [q] at h1
        intro G' hs' H' S2 J2 _ _ s0 H0
        refine (Classical.choose_spec (htl cdv s0 H0).ex).2 _ _ H' G' hs' _ _ s2 _ (sm_nos J2 (hlen f)) ?_
        have h1 : RPost X.K (M.wc (Clo.of X.env ls)) σ W G1 hs1 H1 (retR (gr (nosE Ng.length) s2)) _ := h1
        cases z : gr (nosE Ng.length) s2 with
        | rt d3 s3 =>
          rw [z] at h1
          unfold retR at h1
          dsimp only at h1
          split at h1
          · exact fun H3 G3 hs3 v S3 J3 r3 => h1 G3 hs3 H3 (S2.trans S3) J3 v r3
          · exact h1.elim
        | nx _ _ => rw [z] at h1; exact h1.elim
        | bk _ _ => rw [z] at h1; exact h1.elim
        | ct _ _ => rw [z] at h1; exact h1.elim
        | ex _ _ _ _ => rw [z] at h1; exact h1.elim
        | bad => rw [z] at h1; exact h1.elim
      | ex c p2 s2 =>
        rw [q] at h1
        intro G' hs' H' cls dx S2 J2 xr
        obtain ⟨rfl, _⟩ := xr
        have h1 : RPost X.K (M.wc (Clo.of X.env ls)) σ W G1 hs1 H1 (if cs.contains c = true ∧ noCloL s2 = true then retR (gs c (excE Ng.length i) s2) else .bad) _ := h1
        split at h1
        · rename_i hc
          obtain ⟨hc, hn⟩ := hc
          have hc : c ∈ cs := by simpa using hc
          refine ⟨hx c hc, fun a na D hD => ⟨c, rfl, hc, fun oe pn hz s0 H0 hc2 hz2 pn2 hp2 => ?_⟩⟩
          refine (Classical.choose_spec (hsu cdv s0 H0 c dx a oe pn2 hc2 hz2).ex).2 _ _ H' G' hs' _ _ s2 _ (sm_exc (J2.wc hn) (hlen f) hil) ?_
          cases z : gs c (excE Ng.length i) s2 with
          | rt d3 s3 =>
            rw [z] at h1
            unfold retR at h1
            dsimp only at h1
            split at h1
            · rename_i hn3
              subst hD
              exact fun H3 G3 hs3 v S3 J3 r3 => h1 G3 hs3 H3 (S2.trans S3.wc) (J3.wc hn3.2) v (r3.wc d3 v hn3.1)
            · exact h1.elim
          | nx _ _ => rw [z] at h1; exact h1.elim
          | bk _ _ => rw [z] at h1; exact h1.elim
          | ct _ _ => rw [z] at h1; exact h1.elim
          | ex _ _ _ _ => rw [z] at h1; exact h1.elim
          | bad => rw [z] at h1; exact h1.elim
        · exact h1.elim
    · exact h1.elim
  · exact h1.elim
end
end DL
set_option Elab.async false
set_option linter.all false
set_option maxRecDepth 100000
set_option maxHeartbeats 4000000
namespace DL
open PySem PySem.Spec PyProof.Rows L2
/-- the lambdas of a frame, one by one -/
inductive LmsOk (X : Cx) : List Lm → Prop
  | nil : LmsOk X []
  | cons {params : Arguments} {body : Expr} {scope : Scope} {ls : List Lm} (L : LamX.LamS X.env.scope scope) (b : ∀ (q : Str) (cl : List (Str × Addr)) (pm cv ctv : Value), bindArgs (PySem.W.kla_fn "<lambda>" q params body scope cl pm cv ctv) ⟨[], []⟩ = pure []) (r : LmsOk X ls) : LmsOk X (⟨params, body, scope⟩ :: ls)
theorem LmsOk.get {X : Cx} {ls : List Lm} (h : LmsOk X ls) : ∀ (j : Nat) (l : Lm), ls[j]? = some l → LmOk X l := by
  induction h with
  | nil => intro j l e; simp at e
  | cons L b r ih =>
    intro j l e
    cases j with
    | zero => simp at e; rw [← e]; exact ⟨L, b⟩
    | succ j => exact ih j l (by simpa using e)
inductive LbsOk (M : Mp) (X : Cx) (k : Nat) : List Lm → List (Env → DS → R D) → Prop
  | nil : LbsOk M X k [] []
  | cons {params : Arguments} {body : Expr} {scope : Scope} {ls : List Lm} {fb : Env → DS → R D} {fbs : List (Env → DS → R D)} (h : ∀ (A : Around) (outer : List PySem.Env) (s : Shared) (H : Hp) (E : XK) (f c' : Addr), Room k (A.deeper (LamX.lamEnv X scope s.heap.objs.size f c')) → DE M (LamX.lamCx X A outer s H E scope f c') (WofE E) body fb) (r : LbsOk M X k ls fbs) : LbsOk M X k (⟨params, body, scope⟩ :: ls) (fb :: fbs)
theorem LbsOk.get {M : Mp} {X : Cx} {k : Nat} {ls : List Lm} {fbs : List (Env → DS → R D)} (h : LbsOk M X k ls fbs) : ∀ (j : Nat) (l : Lm), ls[j]? = some l → ∃ fb, fbs[j]? = some fb ∧ ∀ (A : Around) (outer : List PySem.Env) (s : Shared) (H : Hp) (E : XK) (f c' : Addr), Room k (A.deeper (LamX.lamEnv X l.sc s.heap.objs.size f c')) → DE M (LamX.lamCx X A outer s H E l.sc f c') (WofE E) l.bd fb := by
  induction h with
  | nil => intro j l e; simp at e
  | cons h r ih =>
    intro j l e
    cases j with
    | zero => simp at e; rw [← e]; exact ⟨_, rfl, h⟩
    | succ j => simpa using ih j l (by simpa using e)
section
variable {MK : Clo → Mp} {X : Cx} {W : WX} {φ ψ : Clo}
theorem dss_wcK (hw : ∀ φ ψ, (MK φ).wc ψ = MK ψ) (ψ : Clo) {ss : List Stmt} {g : Env → DS → F} (h : DSs (MK ψ) X W ss g) : DSs (MK φ) X W ss (wcB g) := by
  have := dss_wc (M := MK φ) (φ := φ) (ψ := ψ) (by rw [hw]; exact h)
  rwa [hw] at this
theorem de_cloK (hw : ∀ φ ψ, (MK φ).wc ψ = MK ψ) {env : PySem.Env} {ls : List Lm} {c P : Addr} {params : Arguments} {body : Expr} {scope : Scope} {lpos : Pos} (j : Nat) (hj : ls[j]? = some ⟨params, body, scope⟩) (TB : LamX.TabB X.base X.mg c P) (hcode : X.env.code = .ref c) (hmT : HasT (MK (Clo.of env ls)).tabs P (X.env.qual ++ "<lambda>") lpos)
    (L : LamX.LamS X.env.scope scope := by exact LamX.lamS_by (by decide +kernel)) (hdef : defaultsOf params X.env = ([], []) := by rfl) (hv : env = X.env := by rfl) : DE (MK (Clo.of env ls)) X W (.Lambda params body scope lpos) (cloD j) := by
  subst hv
  have := de_clo (M := MK Clo.nil) (X := X) (W := W) (ls := ls) (params := params) (body := body) (scope := scope) (lpos := lpos) j hj TB hcode (by rw [hw]; exact hmT) L hdef
  rwa [hw] at this
theorem de_isOK (hw : ∀ φ ψ, (MK φ).wc ψ = MK ψ) {a D C' : Addr} {dx : Option Addr} {oe : Obj} {pn : List (Addr × Obj)} (i : Nat) {n x : Str} {b : Bool} {p1 p2 p3 pos : Pos} (C : ExcC X.K D) (hz : Zc (.ref D) dx oe) (hx : X.mg x = some (.ref C')) (hb : PySem.W.kitOne X.K (.ref D) (.ref C') = some b) (hm : X.mg "isinstance" = none)
    (hN : X.N[i]? = some n := by rfl) (hv : Vis X.env.scope n := by first | exact Or.inl rfl | exact Or.inr (Or.inl rfl) | exact Or.inr (Or.inr rfl)) (hg : Gl X "isinstance" := by rfl) (hgx : Gl X x := by rfl) (hdx : (x == ("__debug__" : Str)) = false := by decide) (hd : (n == ("__debug__" : Str)) = false := by decide) (hcd : (n == ("__classdict__" : Str)) = false := by decide) :
    DE (MK (Ecl a)) (X.suite a ((a, oe) :: pn)) W (.Call (.Name "isinstance" p1) [.Name n p2, .Name x p3] [] pos) (isED i b) := by
  have := de_isO (M := MK Clo.nil) (W := W) (a := a) (oe := oe) (pn := pn) (p1 := p1) (p2 := p2) (p3 := p3) (pos := pos) i C hz hx hb hm hN hv hg hgx hdx hd hcd
  rwa [hw] at this
theorem de_isTK (hw : ∀ φ ψ, (MK φ).wc ψ = MK ψ) {a D : Addr} {T : String} {dx : Option Addr} {oe : Obj} {pn : List (Addr × Obj)} (i : Nat) {n x : Str} {b : Bool} {p1 p2 p3 pos : Pos} (C : ExcC X.K D) (hz : Zc (.ref D) dx oe) (hx : X.mg x = none) (hbl : bootBuiltins x = some (.type T)) (hb : PySem.W.kitOne X.K (.ref D) (.type T) = some b) (hm : X.mg "isinstance" = none)
    (hN : X.N[i]? = some n := by rfl) (hv : Vis X.env.scope n := by first | exact Or.inl rfl | exact Or.inr (Or.inl rfl) | exact Or.inr (Or.inr rfl)) (hg : Gl X "isinstance" := by rfl) (hgx : Gl X x := by rfl) (hdx : (x == ("__debug__" : Str)) = false := by decide) (hnx : x ≠ "__name__" := by decide) (hd : (n == ("__debug__" : Str)) = false := by decide) (hcd : (n == ("__classdict__" : Str)) = false := by decide) :
    DE (MK (Ecl a)) (X.suite a ((a, oe) :: pn)) W (.Call (.Name "isinstance" p1) [.Name n p2, .Name x p3] [] pos) (isED i b) := by
  have := de_isT (M := MK Clo.nil) (W := W) (a := a) (oe := oe) (pn := pn) (p1 := p1) (p2 := p2) (p3 := p3) (pos := pos) i C hz hx hbl hb hm hN hv hg hgx hdx hnx hd hcd
  rwa [hw] at this
theorem de_underK (hw : ∀ φ ψ, (MK φ).wc ψ = MK ψ) {env : PySem.Env} {x a en xn : Str} {g : Addr} {k : Nat} (i : Nat) {st : Stmt} {fd : FuncData} {Ng : List Str} {e : Expr} {fe : Env → DS → R D} {ls : List Lm} {fbs : List (Env → DS → R D)} {cs : List Nat} {mill : Value} {b₀ : Stmt} {suite tail : List Stmt} {gs : Nat → Env → DS → F} {gr : Env → DS → F} {p pos p1 p2 p3 p4 p5 p6 : Pos}
    (Fu : Fun X.K x x st g fd) (hb : L2.Binds X.K fd [a] []) (Sg : FnScope Ng [a] (defScope st)) (hbd : defBody st = .Try [.Expr (.Call (.Name a p1) [] [] p2) p3] [.ExceptHandler (some (.Name xn p4)) (some en) (b₀ :: suite) p5] [] [] p6 :: tail)
    (he : DE (MK (Clo.of env ls)) X W e fe) (hL : LmsOk X ls) (hbody : LbsOk (MK (Clo.of env ls)) X k ls fbs)
    (hx : ∀ c ∈ cs, PySem.W.exmOne X.K (.ref ((MK Clo.nil).exc c)) mill = some true)
    (hsu : ∀ (cdv : Value) (s : Shared) (H : Hp) (c : Nat) (dx : Option Addr) (a : Addr) (oe : Obj) (pn : List (Addr × Obj)), c ∈ cs → Zc (.ref ((MK Clo.nil).exc c)) dx oe → DSs (MK (Ecl a)) ((CalC X Ng x (defScope st) g cdv s H).nox.suite a ((a, oe) :: pn)) W0 (b₀ :: suite) (gs c))
    (htl : ∀ (cdv : Value) (s : Shared) (H : Hp), DSs (MK (Clo.of env ls)) (CalC X Ng x (defScope st) g cdv s H).nox W0 tail gr)
    (hm : X.mg x = some (.ref g)) (hr : Room (k + 2) X.A) (hx2 : X.mg xn = some mill) (hx1 : (defScope st).names.lookup xn = some .globalImplicit := by rfl) (hNg : Ng[0]? = some a := by rfl) (hi : Ng[i]? = some en := by rfl) (hne : i ≠ 0 := by decide) (hva : Vis (defScope st) a := by first | exact Or.inl rfl | exact Or.inr (Or.inl rfl) | exact Or.inr (Or.inr rfl)) (hln : (defScope st).names.lookup en = some .local := by rfl)
    (hg : Gl X x := by rfl) (hst : starEach [e] X.env = (false, eval e X.env) :: starEach [] X.env := by rfl) (hdb : (x == ("__debug__" : Str)) = false := by decide) (hx3 : (xn == ("__debug__" : Str)) = false := by decide) (hd : (a == ("__debug__" : Str)) = false := by decide) (hcd : (a == ("__classdict__" : Str)) = false := by decide) (hv : env = X.env := by rfl) :
    DE (MK (Clo.of env ls)) X W (.Call (.Name x p) [e] [] pos) (undD Ng.length i cs fbs gs gr fe) := by
  subst hv
  have := de_under (M := MK Clo.nil) (W := W) (p := p) (pos := pos) Fu hb Sg hbd (by rw [hw]; exact he) hL.get (by rw [hw]; exact hbody.get) hx (fun cdv s H c dx a oe pn hc hz => by rw [hw]; exact hsu cdv s H c dx a oe pn hc hz) (fun cdv s H => by rw [hw]; exact htl cdv s H) hm hr hx2 hx1 hNg hi hne hva hln hg hst hdb hx3 hd hcd
  rwa [hw] at this
end
/-- the lambdas of a list, of a row of statements -/
def lmsOf : List Expr → List Lm
  | .Lambda p b s _ :: r => ⟨p, b, s⟩ :: lmsOf r
  | _ => []
def lmsIn : List Stmt → List Lm
  | .Assign _ (.List es _) _ :: _ => lmsOf es
  | _ :: r => lmsIn r
  | [] => []
/-- what a class of errors must say -/
def excCB (K : PySem.W.Frag) (D : Addr) : Bool :=
  PySem.W.findIn K (.ref D) "__getattribute__" == some (some (.builtin "BaseException.__getattribute__")) && PySem.W.findIn K (.ref D) "__getattr__" == some none && PySem.W.subIn K (.ref D) (.type "BaseException") == some true && PySem.W.hasDictIn K D
  && PySem.W.findIn K (.ref D) "__class__" == some (some (.builtin "object.__class__")) && PySem.W.specialIn K (.builtin "object.__class__") "__get__" == some (some (.builtin "getset_descriptor.__get__")) && PySem.W.takesIn K (.builtin "object.__class__") == some true && PySem.W.mroIn K D (.type "object") == some true
theorem excC_of {K : PySem.W.Frag} {D : Addr} (h : excCB K D = true) : ExcC K D := by
  unfold excCB at h
  simp only [Bool.and_eq_true, beq_iff_eq] at h
  obtain ⟨⟨⟨⟨⟨⟨⟨h1, h2⟩, h3⟩, h4⟩, h5⟩, h6⟩, h7⟩, h8⟩ := h
  exact ⟨h1, h2, h3, h4, h5, h6, h7, h8⟩
end DL
set_option Elab.async false
set_option linter.all false
set_option maxRecDepth 100000
set_option maxHeartbeats 4000000
namespace DL
open PySem PySem.Spec PyProof PyProof.Rows L2
section
variable {M : Mp} {X : Cx} {W : WX} {K : PySem.W.Frag}
def M0 : Mp := { cls := fun _ => 0, flds := fun _ => [], exc := fun _ => 0, row := "", raw := false, tabs := { l := [], kq := none, kn := fun _ _ => "" } }
end
section
variable {M : Mp} {X : Cx}
def rMulS : R2 := fun x y H Q => ∃ a n, x = .str a ∧ y = .int n ∧ MulOk a n ∧ Q (.str (Txt.mul a n)) H
theorem op_mulS : OpR X (binaryOp .Mult) rMulS := by
  intro pins s σ H x y v u Q I rx ry h
  obtain ⟨a, n, rfl, rfl, ok, q⟩ := h
  obtain ⟨t, rfl⟩ := rx
  obtain ⟨t2, rfl⟩ := ry
  exact SB.mul ok fun t' k => ⟨.str _, H, I.tok _, ⟨t', rfl⟩, q⟩
def opMulS : D → D → Option D
  | .str a, .int n => if -1000000 ≤ n ∧ n ≤ 1000000 ∧ a.length * n.toNat ≤ 16777216 then some (.str (Txt.mul a n)) else none
  | _, _ => none
theorem mulOk_of {a : Str} {n : Int} (h : -1000000 ≤ n ∧ n ≤ 1000000 ∧ a.length * n.toNat ≤ 16777216) : MulOk a n := by
  obtain ⟨h1, h2, h3⟩ := h
  refine ⟨?_, fun c _ => ?_, fun _ _ => ?_⟩
  · have e : (2 : Int) ^ 63 = 9223372036854775808 := by decide
    rw [e, decide_eq_false (by omega), decide_eq_false (by omega)]
    rfl
  · have e : (2 : Int) ^ 63 = 9223372036854775808 := by decide
    have la : a.length ≤ 16777216 := by
      have : a.length * 1 ≤ a.length * n.toNat := Nat.mul_le_mul_left _ (by omega)
      omega
    have : (9000000000000 : Int) ≤ (2 ^ 63 - 1) / n := by
      rw [e]
      refine (Int.le_ediv_iff_mul_le (by omega)).mpr ?_
      omega
    omega
  · unfold Builtin.Str.tooLong
    have := sizeLine_eq
    simp
    omega
theorem od_mulS : OpD M X (binaryOp .Mult) opMulS := by
  refine ⟨_, op_mulS, fun G hs s H x y z v u Q J hx hy e k => ?_⟩
  unfold opMulS at e
  split at e
  · split at e
    · rename_i hk
      cases e
      exact ⟨_, _, hx.str, hy.int, mulOk_of hk, k G H (Stp.refl _ _ _ _) J _ (rep_str.mpr rfl)⟩
    · cases e
  · cases e
end
theorem opMulS_s {a : Str} {n : Int} (h : -1000000 ≤ n ∧ n ≤ 1000000 ∧ a.length * n.toNat ≤ 16777216) : opMulS (.str a) (.int n) = some (.str (Txt.mul a n)) := if_pos h
end DL
set_option Elab.async false
set_option linter.all false
set_option maxRecDepth 100000
set_option maxHeartbeats 4000000
namespace L21
open PySem L2 DL
def csE : List Nat := [1, 2, 3, 4, 5, 6, 7, 8]
abbrev S_SIDES : List Str := ["n", "ne", "e", "se", "s", "sw", "w", "nw"]
def L_SIDES : List D := [.str "n", .str "ne", .str "e", .str "se", .str "s", .str "sw", .str "w", .str "nw"]
abbrev K_SIDES : D := .tup L_SIDES
noncomputable def B_Barn_init : DL.Env → DS → F := seqB (ifB (tstD (bopD opLt (vB 1) (cD (.int 1)))) (raiseA 2 (consA (cD (.str "no barn")) (nilA))) (nextB)) (seqB (fldB 0 0 (vD 1) (plV 0)) (fldB 0 1 (tupD (nilA)) (plV 0)))
noncomputable def m_Barn_init : List D → DS → R D := inD 0 2 B_Barn_init
noncomputable def B_Barn_held : DL.Env → DS → F := retB (gSumD (iterD tupO (fldD 0 1 (vB 0))) (gT (gsC (gN 2) (gsC (gN 3) (gsC (gN 4) (gsN))))) (tstD (bopD opEq (vB 2) (vB 1))) (vD 4) [2, 3, 4])
noncomputable def m_Barn_held : List D → DS → R D := fnD 5 B_Barn_held
noncomputable def B_Barn_draw : DL.Env → DS → F := seqB (ifB (tstD (bopD opLt (vB 2) (cD (.int 0)))) (raiseA 1 (consA (cD (.str "below nought")) (nilA))) (nextB)) (seqB (ifB (tstD (bopD opGt (vB 2) (methD 0 (gateD 2 m_Barn_held) (vD 0) (consA (vD 1) (nilA))))) (raiseA 6 (consA (vD 1) (nilA))) (nextB)) ((fun _ _ => F.bad)))
noncomputable def m_Barn_draw : List D → DS → R D := fnD 9 B_Barn_draw
noncomputable def B_Desk_init : DL.Env → DS → F := seqB (fldB 3 0 (cD (.str "1 bring ann rye 12\n1 grind ann rye 8\n2 fetch ann rye 5")) (plV 0)) (seqB (fldB 3 1 (lstD (nilA)) (plV 0)) (fldB 3 2 (lstD (nilA)) (plV 0)))
noncomputable def m_Desk_init : List D → DS → R D := inD 3 1 B_Desk_init
noncomputable def B_Desk_undo : DL.Env → DS → F := seqB (ifB (tstD (bopD opEqN (fldD 3 1 (vB 0)) (lstD (nilA)))) (raiseA 8 (consA (cD (.str "nothing to undo")) (nilA))) (nextB)) ((fun _ _ => F.bad))
noncomputable def m_Desk_undo : List D → DS → R D := fnD 2 B_Desk_undo
noncomputable def B_Hoist_init : DL.Env → DS → F := seqB (ifB (orT (tstD (bopD opLt (vB 1) (cD (.int 2)))) (orT (tstD (bopD opLt (vB 2) (cD (.int 1)))) (orT (tstD (bopD opLt (bltD min2O (consA (vB 3) (consA (vB 4) (nilA)))) (cD (.int 1)))) (notT (tstD (chD opLe opLt (cD (.int 0)) (vB 5) (vB 1))))))) (raiseA 2 (consA (cD (.str "no hoist")) (nilA))) (nextB)) (seqB (fldB 5 0 (vD 1) (plV 0)) (seqB (fldB 5 1 (vD 2) (plV 0)) (seqB (fldB 5 2 (vD 3) (plV 0)) (seqB (fldB 5 3 (vD 4) (plV 0)) (fldB 5 4 (vD 5) (plV 0))))))
noncomputable def m_Hoist_init : List D → DS → R D := inD 5 6 B_Hoist_init
noncomputable def B_Hoist_go : DL.Env → DS → F := seqB (ifB (orT (notT (tstD (chD opLe opLt (cD (.int 0)) (vB 1) (fldD 5 0 (vB 0))))) (notT (tstD (chD opLe opLt (cD (.int 0)) (vB 2) (fldD 5 0 (vB 0)))))) (raiseA 3 (consA (cD (.str "no floor")) (nilA))) (nextB)) (seqB (ifB (tstD (bopD opLt (vB 3) (cD (.int 0)))) (raiseA 1 (consA (cD (.str "below nought")) (nilA))) (nextB)) (seqB (ifB (tstD (bopD opGt (vB 3) (fldD 5 1 (vB 0)))) (raiseA 4 (consA (cD (.str "too heavy")) (nilA))) (nextB)) ((fun _ _ => F.bad))))
noncomputable def m_Hoist_go : List D → DS → R D := fnD 5 B_Hoist_go
noncomputable def B_Row_init : DL.Env → DS → F := fldB 6 0 (tupD (nilA)) (plV 0)
noncomputable def m_Row_init : List D → DS → R D := inD 6 1 B_Row_init
noncomputable def B_Row_next_lot : DL.Env → DS → F := seqB (setB 2 (calmD (lcD (iterD tupO (fldD 6 0 (vB 0))) (gN 3) (tstD (bopD opInX (vB 1) (tupD (consA (cD (.str "")) (consA (fldD 1 3 (vB 3)) (nilA)))))) (vD 3) [3]))) (seqB (ifB (tstD (bopD opEqN (vB 2) (lstD (nilA)))) (raiseA 5 (consA (cD (.str "none")) (nilA))) (nextB)) ((fun _ _ => F.bad)))
noncomputable def m_Row_next_lot : List D → DS → R D := fnD 4 B_Row_next_lot
noncomputable def B_Train_init : DL.Env → DS → F := seqB (ifB (tstD (gAnyD true (iterD sqO (vD 1)) (gN 2) (yesT) (bopD opLt (bltD minTO (consA (vB 2) (nilA))) (cD (.int 3))) [2])) (raiseA 2 (consA (cD (.str "too few teeth")) (nilA))) (nextB)) ((fun _ _ => F.bad))
noncomputable def m_Train_init : List D → DS → R D := inD 4 3 B_Train_init
noncomputable abbrev B_law_roll := DR.B_law_roll
noncomputable abbrev m_law_roll := DR.m_law_roll
noncomputable abbrev B_law_dice := DR.B_law_dice
noncomputable abbrev m_law_dice := DR.m_law_dice
noncomputable abbrev B_law_rounds := DR.B_law_rounds
noncomputable abbrev m_law_rounds := DR.m_law_rounds
noncomputable def B_notched : DL.Env → DS → F := seqB (ifB (notT (tstD (chD opLe opLe (cD (.int 1)) (vB 0) (cD (.int 4999))))) (raiseA 1 (consA (cD (.str "no number")) (nilA))) (nextB)) ((fun _ _ => F.bad))
noncomputable def m_notched : List D → DS → R D := fnD 4 B_notched
noncomputable def B_read_row : DL.Env → DS → F := seqB (setB 1 (mthD isStr splitO (vB 0) (consA (cD (.str " ")) (nilA)))) (seqB (ifB (orT (tstD (bopD opNe (bltD lenO (consA (vB 1) (nilA))) (cD (.int 5)))) (tstD (gAnyD true (iterD tupO (tupD (consA (bopD opIx (vB 1) (cD (.int 0))) (consA (bopD opIx (vB 1) (cD (.int 4))) (nilA))))) (gN 2) (yesT) (notD (chD opLe opLe (cD (.int 1)) (bltD lenO (consA (vB 2) (nilA))) (cD (.int 4)))) [2]))) (raiseR 7 (consA (cD (.int 0)) (nilA))) (nextB)) ((fun _ _ => F.bad)))
noncomputable def m_read_row : List D → DS → R D := fnD 5 B_read_row
noncomputable def B_side_on : DL.Env → DS → F := seqB (ifB (tstD (uopD (inCO true S_SIDES) (vB 0))) (raiseA 3 (consA (vD 0) (nilA))) (nextB)) ((fun _ _ => F.bad))
noncomputable def m_side_on : List D → DS → R D := fnD 2 B_side_on
noncomputable def S_law_0x_0 : DL.Env → DS → F := asgB (gT (gsC (gN 4) (gsC (gN 5) (gsN)))) (tupD (consA (bopD opAdd (cD (.int 1)) (callD (gateD 2 m_law_roll) (consA (vD 1) (consA (cD (.int 90)) (nilA))))) (consA (calmN 3 3 (callD (gateD 0 m_Desk_init) nilA)) (nilA))))
noncomputable def S_law_0x_1 : DL.Env → DS → F := setB 2 (lstD (consA (cloD 0) (consA (cloD 1) (consA (cloD 2) (consA (cloD 3) (consA (cloD 4) (consA (cloD 5) (consA (cloD 6) (consA (cloD 7) (nilA))))))))))
noncomputable def S_law_0x_2 : DL.Env → DS → F := setB 3 (callD (gateD 2 m_law_roll) (consA (vD 1) (consA (cD (.int 8)) (nilA))))
noncomputable def FB_0 : DL.Env → DS → R D := methD 3 (gateD 1 m_Desk_undo) (vD 5) nilA
noncomputable def FB_1 : DL.Env → DS → R D := calmN 4 1 (callD (gateD 1 m_Train_init) (consA (lstD (consA (tupD (consA (cD (.int 2)) (consA (bopD opAdd (cD (.int 2)) (vB 4)) (nilA)))) (nilA))) (nilA)))
noncomputable def FB_2 : DL.Env → DS → R D := callD (gateD 1 m_notched) (consA (bopD opAdd (cD (.int 4999)) (vB 4)) (nilA))
noncomputable def FB_3 : DL.Env → DS → R D := callD (gateD 1 m_read_row) (consA (bopD opMulS (cD (.str "x")) (vB 4)) (nilA))
noncomputable def FB_4 : DL.Env → DS → R D := methD 5 (gateD 4 m_Hoist_go) (calmN 5 5 (callD (gateD 5 m_Hoist_init) (consA (cD (.int 3)) (consA (vD 4) (consA (cD (.int 1)) (consA (cD (.int 1)) (consA (cD (.int 0)) (nilA)))))))) (consA (cD (.int 0)) (consA (cD (.int 1)) (consA (bopD opAdd (vB 4) (cD (.int 1))) (nilA))))
noncomputable def FB_5 : DL.Env → DS → R D := callD (gateD 2 m_side_on) (consA (bopD opMulS (cD (.str "x")) (vB 4)) (consA (cD (.int 1)) (nilA)))
noncomputable def FB_6 : DL.Env → DS → R D := methD 6 (gateD 2 m_Row_next_lot) (calmN 6 1 (callD (gateD 0 m_Row_init) nilA)) (consA (bopD opMulS (cD (.str "x")) (vB 4)) (nilA))
noncomputable def FB_7 : DL.Env → DS → R D := methD 0 (gateD 3 m_Barn_draw) (calmN 0 2 (callD (gateD 1 m_Barn_init) (consA (cD (.int 5)) (nilA)))) (consA (cD (.str "rye")) (consA (vD 4) (nilA)))
noncomputable def FBs : List (DL.Env → DS → R D) := [FB_0, FB_1, FB_2, FB_3, FB_4, FB_5, FB_6, FB_7]
noncomputable def GS_under : Nat → DL.Env → DS → F := fun c => seqB (setB 2 (lstD (consA (isED 1 (c == 8)) (consA (isED 1 (c == 2)) (consA (isED 1 (c == 1)) (consA (isED 1 (c == 7)) (nilA))))))) (seqB (setB 2 (bopD opAdd (vB 2) (lstD (consA (isED 1 (c == 4)) (consA (isED 1 (c == 3)) (consA (isED 1 (c == 5)) (consA (isED 1 (c == 6)) (nilA)))))))) (retB (bopD opAdd (vB 2) (lstD (consA (isED 1 true) (nilA))))))
noncomputable def GR_under : DL.Env → DS → F := retB (lstD (nilA))
noncomputable def S_law_0x_3a_0 : DL.Env → DS → F := retB (cD (.bl false))
noncomputable def S_law_0x_3 : DL.Env → DS → F := ifB (tstD (bopD opNe (undD 3 1 csE FBs GS_under GR_under (bopD opIx (vB 2) (vB 3))) (bopD opAdd (calmD (lcD (rngD rng1 (consA (cD (.int 8)) (nilA))) (gN 6) (yesT) (bopD opEq (vB 6) (vB 3)) [6])) (lstD (consA (cD (.bl true)) (nilA)))))) (S_law_0x_3a_0) (nextB)
noncomputable def L_law_0 : DL.Env → DS → F := wcB (wipB [false, false, false, false, false, false] (seqB (S_law_0x_0) (seqB (S_law_0x_1) (seqB (S_law_0x_2) (S_law_0x_3)))))
abbrev E_law_0 : DL.Env := [.no, .no, .no, .no, .no, .no, .no]
noncomputable def S_law_0 : DL.Env → DS → F := wipB [false, false, false, false, false, false] (forW [false, false, false, false, false, false] (iterD scrO (callD (gateD 2 m_law_rounds) (consA (vD 0) (consA (cD (.int 1)) (nilA))))) (gN 1) L_law_0)
noncomputable def S_law_1 : DL.Env → DS → F := retB (cD (.bl true))
noncomputable def B_law : DL.Env → DS → F := seqB (S_law_0) (S_law_1)
noncomputable def m_law : List D → DS → R D := fnD 7 B_law
local macro_rules | `(tactic| walk_at "dl") => `(tactic| simp -implicitDefEqProofs (disch := first | omega | assumption | (simp only [okN, okNL, okNL_mi, D.has, hasL, flt, isI, isS, List.all_cons, List.all_nil, Bool.or_true, Bool.true_or, Bool.false_or, Bool.false_and, Bool.and_self, Bool.and_true, Bool.true_and]; done) | (simp only [List.length_cons, List.length_nil, List.length_append, List.length_map, List.length_range]; omega) | (simp only [okN, okNL, Bool.and_self, Bool.and_true, Bool.true_and]; decide +kernel) | decide +kernel | fail) only [ opEqDs_d, opEqDs_s, opEqN_l, opNeN_l, List.isEmpty_cons, List.isEmpty_nil, List.isEmpty_map, lc2D_eq, asgmB_eq, opEqO_o, opNeO_o, opEqO_s, opNeO_s, gmG_eq, slB_eq, slU_eq, gmSub_eq, gmN_eq, gmC_eq, gmT_eq, seqK_nx, deref_tup0, calmDD_eq, calmDK_d, dnewD_eq, frzDB_eq, frzDK_d, opDix_i, opDix_s, opDin_i, opDin_s, opDnin_i, opDnin_s, setDi_i, setDi_s, getDi_i, getDi_s, isDic_d, getD1_eq, getD2_eq, get1O_i, get1O_s, get2O_i, get2O_s, lenDO_d, listKO_d, dicK_d, dicV_d, dicI_d, tupIO_d, dicIO_d, dictO_d, nilP_eq, consP_eq, dispD_eq, isKey_i, isKey_s, opIs_x, opIsNot_x, isN_n, isN_i, isN_s, isN_t, isN_l, untD_eq, un0_t, ix0D_eq, isTup0_t, tup0O_l, rgaD_eq, minTO_eq, enumTO_t, maxTO_eq, sortK_eq, bopTD_eq, ofO_some, seqB_eq, then_nx, then_rt, then_bk, then_ct, then_ex, then_bad, bind_ok, bind_ex, bind_bad, toF_ok, toF_ex, toF_bad, ofO_some, ofO_none, nx_ok, cD_eq, vD_0, vD_s, vB_0, vB_o, vB_s, bopD_eq, uopD_eq, tstD_eq, asB_bl, asI_int, deref_int, deref_bl, deref_str, deref_non, deref_tup, deref_lst, deref_dic, deref_obj, deref_scr, deref_han, chD_eq, ch3D_eq, andT_eq, orT_eq, notT_eq, ifD_eq, andD_eq, orD_eq, notD_eq, nilA_eq, consA_eq, tupD_eq, lstD_eq, fldD_eq, bltD_eq, partN_eq, partS_eq, sliceD_eq, callD_eq, gateD_eq, methD_eq, isC_obj, calmD_eq, calmN_eq, calmK_obj, hanD_eq, notObj_l, notObj_t, notObj_d, setB_eq, setOB_eq, setF_eq, setOF_eq, ifB_eq, retB_eq, retN_eq, dropB_eq, nextB_eq, breakB_eq, contB_eq, raiseA_eq, augB_eq, frzB_eq, frzL_nil, frzL_cons, frzE_zl, frzE_zd, frzE_zv, frzE_zn, frzE_s, asgB_eq, asg2B_eq, parB_eq, putAll_nil, putAll_cons, asgFB_eq, nilF_eq, consV_eq, consO_eq, gN_eq, gsN_eq, gsC_eq, gT_eq, fnD_eq, fnK_nx, fnK_rt, fnK_ex, fnK_bad, inD_eq, inK_nx, inK_ex, toldD_eq,  ite_yes, ite_no, dec_yes, dec_no, plV_eq, plK_o, plK_h, plE_eq, plEK_h, wrF_slot, wrF_han, wrS_o, wrH_s, wrSU_s, wrHU_s, fldB_eq, fldU_eq, stB_eq, stAK_s, stAugB_eq, fldAugB_eq, plcD_slot, plcD_han, plS_o, mtB_eq, mthD_eq, isLst_l, appU_l, setL_l, getL_l, ixN_ok, atI_0, atI_1, atI_2, atI_3, atI_4, atI_5, atI_6, atI_7, atI_8, atI_9, atI_10, atI_11, atI_12, atI_13, atI_14, atI_15, forB_eq, rngD_eq, iterD_eq, rng1_int, rng2_int, scrO_l, scrO_s, lstO_l, tupO_l, putK_some, goK_nx, goK_ct, goK_bk, goK_rt, goK_ex, lcD_eq, wipeE_nil, wipeE_cons, yesT_eq, lcPut_some, wipB_eq, forW_eq, preB_eq, wip_nx, wip_bk, wip_ct, wip_rt, wip_ex, wip_bad, keep_t, keep_f, keep_n, asgO_s, asgK_eq, asgFK_eq, putS_nil, putS_v, putS_o, and_self, ite_self, wrS_o, wrSU_s, true_and, and_true, false_and, and_false, decide_true, decide_false, Int.reduceLT, Int.reduceLE, Int.reduceEq, Int.reduceAdd, Int.reduceSub, Int.reduceMul, Int.reduceNeg, Int.reduceDiv, Int.reduceMod, Int.reduceNe, turnF_eq,
  cut_to, cut_from, cut_both, opCut_l, opCut_t, opCut_s, opPow_int, opAdd_tup, opAdd_lst, opEq_ts, opEq_ls, opEq_st, opEq_sl, opNe_ts, opNe_ls, opNe_st, opNe_sl, opEq_ss, opNe_ss, opEq_nn, opNe_self, opEq_self, opNe_nn, opNe_lnil, opEq_lnil, opNe_is, opEq_is, opNe_si, opEq_si, opNe_bb, opEq_bb, opAdd_int, opAug_int, opSub_int, opMul_r, opMul_l, opMulI_r, opMulI_l, opDiv_int, opMod_int, opLt_int, opLe_int, opGt_int, opGe_int, opEq_int, opNe_int, min2_int, max2_int, min3_int, min4_int, opNeg_int, listO_l, listO_t, tupleO_l, tupleO_t, zipO_ll, zipO_tt, zipMO_tl, conIxD_eq, disp1T_eq, opTin_d, opTnin_d, opTix_d, setTi_d, dkT_l, enumO_l, enumLO_l, lenO_l, lenO_t, opIn_lst, opIn_tup, opNin_lst, opNin_tup, opInX_lstF, opInX_tupF, opNinX_lstF, opNinX_tupF, eqB_ss, eqB_ii, List.any_cons, List.any_nil, gSumD_eq, gAnyD_eq, anyF_nil, anyPut_some, absO_int, intO_int, intO_bl, fldO_eq, opIx_t, opIx_l,
  Bool.true_and, Bool.and_true, Bool.false_and, Bool.and_false, List.map_cons, List.map_nil, List.length_cons, List.length_nil, List.set_cons_zero, List.set_cons_succ, List.getElem?_cons_zero, List.getElem?_cons_succ, Option.map_some, Option.bind_some, decide_eq_true_eq, Bool.not_eq_true', decide_eq_false_iff_not, Bool.not_true, Bool.false_eq_true, reduceCtorEq, Bool.not_false, ite_true, ite_false, if_true, if_false, Nat.reduceAdd, Nat.reduceLeDiff, Nat.reduceLT, Nat.reduceSub, beq_self_eq_true, Nat.reduceEqDiff, reduceIte, Int.reduceToNat, Int.reducePow, List.take_zero, List.take_nil, List.drop_nil, List.drop_zero, List.take_succ_cons, List.drop_succ_cons, forF_nil, padE, List.length_append, List.replicate, List.append_nil, List.cons_append, List.nil_append])
theorem law_of (hb : ∀ x : DR.Dc, ∃ s', turnF (gN 1) L_law_0 (.han 0) E_law_0 [x.d] = .nx E_law_0 s') (ns : List Int) (_h : ns.length ≤ 63) : ∃ s, m_law [.scr ns] [] = .ok (.bl true) s := by
  obtain ⟨x, e⟩ := DR.rounds_eq ns
  have e' : m_law_rounds [.scr ns, .int 1] [] = _ := e
  obtain ⟨s', e2⟩ := hb x
  unfold m_law B_law S_law_0
  walk_at "dl"
  rw [e']
  walk_at "dl"
  rw [forF_cons2, e2]
  unfold S_law_1
  walk_at "dl"
  exact ⟨_, rfl⟩
end L21
set_option Elab.async false
set_option linter.all false
set_option maxRecDepth 100000
set_option maxHeartbeats 4000000
namespace L21
open PySem PySem.Spec PyProof.Rows L2 DL
def top (i : Nat) : Stmt := PySem.Challenge.pw_millhall_k21_refusals_apart.main.body.getD i (.Pass ⟨0, 0, 0, 0⟩)
abbrev s_law_under : Stmt := top 36
abbrev s_Barn_init : Stmt := (inClass (top 15) 0)
abbrev s_Barn_held : Stmt := (inClass (top 15) 3)
abbrev s_Barn_draw : Stmt := (inClass (top 15) 4)
abbrev s_Desk_init : Stmt := (inClass (top 22) 0)
abbrev s_Desk_undo : Stmt := (inClass (top 22) 5)
abbrev s_Hoist_init : Stmt := (inClass (top 26) 0)
abbrev s_Hoist_go : Stmt := (inClass (top 26) 1)
abbrev s_Row_init : Stmt := (inClass (top 28) 0)
abbrev s_Row_next_lot : Stmt := (inClass (top 28) 2)
abbrev s_Train_init : Stmt := (inClass (top 24) 0)
abbrev s_law_roll : Stmt := top 34
abbrev s_law_dice : Stmt := top 33
abbrev s_law_rounds : Stmt := top 35
abbrev s_notched : Stmt := top 13
abbrev s_read_row : Stmt := top 19
abbrev s_side_on : Stmt := top 31
abbrev s_law : Stmt := top 37
def d_law_under : He.DefD := ⟨("_law_under", none), "_law_under", "_law_under", defArgs s_law_under, defBody s_law_under, defScope s_law_under, [], []⟩
def d_Barn_init : He.DefD := ⟨("Barn", some "__init__"), "__init__", "Barn.__init__", defArgs s_Barn_init, defBody s_Barn_init, defScope s_Barn_init, [], []⟩
def d_Barn_held : He.DefD := ⟨("Barn", some "held"), "held", "Barn.held", defArgs s_Barn_held, defBody s_Barn_held, defScope s_Barn_held, [], []⟩
def d_Barn_draw : He.DefD := ⟨("Barn", some "draw"), "draw", "Barn.draw", defArgs s_Barn_draw, defBody s_Barn_draw, defScope s_Barn_draw, [], []⟩
def d_Desk_init : He.DefD := ⟨("Desk", some "__init__"), "__init__", "Desk.__init__", defArgs s_Desk_init, defBody s_Desk_init, defScope s_Desk_init, [], []⟩
def d_Desk_undo : He.DefD := ⟨("Desk", some "undo"), "undo", "Desk.undo", defArgs s_Desk_undo, defBody s_Desk_undo, defScope s_Desk_undo, [], []⟩
def d_Hoist_init : He.DefD := ⟨("Hoist", some "__init__"), "__init__", "Hoist.__init__", defArgs s_Hoist_init, defBody s_Hoist_init, defScope s_Hoist_init, [], []⟩
def d_Hoist_go : He.DefD := ⟨("Hoist", some "go"), "go", "Hoist.go", defArgs s_Hoist_go, defBody s_Hoist_go, defScope s_Hoist_go, [], []⟩
def d_Row_init : He.DefD := ⟨("Row", some "__init__"), "__init__", "Row.__init__", defArgs s_Row_init, defBody s_Row_init, defScope s_Row_init, [], []⟩
def d_Row_next_lot : He.DefD := ⟨("Row", some "next_lot"), "next_lot", "Row.next_lot", defArgs s_Row_next_lot, defBody s_Row_next_lot, defScope s_Row_next_lot, [], []⟩
def d_Train_init : He.DefD := ⟨("Train", some "__init__"), "__init__", "Train.__init__", defArgs s_Train_init, defBody s_Train_init, defScope s_Train_init, [], []⟩
def d_law_roll : He.DefD := ⟨("_law_roll", none), "_law_roll", "_law_roll", defArgs s_law_roll, defBody s_law_roll, defScope s_law_roll, [], []⟩
def d_law_dice : He.DefD := ⟨("_law_dice", none), "_law_dice", "_law_dice", defArgs s_law_dice, defBody s_law_dice, defScope s_law_dice, [], []⟩
def d_law_rounds : He.DefD := ⟨("_law_rounds", none), "_law_rounds", "_law_rounds", defArgs s_law_rounds, defBody s_law_rounds, defScope s_law_rounds, [], []⟩
def d_notched : He.DefD := ⟨("notched", none), "notched", "notched", defArgs s_notched, defBody s_notched, defScope s_notched, [], []⟩
def d_read_row : He.DefD := ⟨("read_row", none), "read_row", "read_row", defArgs s_read_row, defBody s_read_row, defScope s_read_row, [], []⟩
def d_side_on : He.DefD := ⟨("side_on", none), "side_on", "side_on", defArgs s_side_on, defBody s_side_on, defScope s_side_on, [], []⟩
def d_law : He.DefD := ⟨("law", none), "law", "law", defArgs s_law, defBody s_law, defScope s_law, [], []⟩
def fn : List He.DefD := [d_law_under, d_Barn_init, d_Barn_held, d_Barn_draw, d_Desk_init, d_Desk_undo, d_Hoist_init, d_Hoist_go, d_Row_init, d_Row_next_lot, d_Train_init, d_law_roll, d_law_dice, d_law_rounds, d_notched, d_read_row, d_side_on, d_law]
def fa : List He.Fa := [.glo "_law_under", .glo "_law_roll", .glo "_law_dice", .glo "_law_rounds", .glo "notched", .glo "read_row", .glo "side_on", .glo "law", .glo "Barn", .cls "Barn", .noat "Barn" "room", .noat "Barn" "heaps", .mkr "Barn", .meth "Barn" "held", .meth "Barn" "draw", .glo "Line", .cls "Line", .noat "Line" "day", .noat "Line" "deed", .noat "Line" "owner", .noat "Line" "kind", .noat "Line" "bushels", .glo "Desk", .cls "Desk", .noat "Desk" "text", .noat "Desk" "deeds", .noat "Desk" "undone", .mkr "Desk", .meth "Desk" "undo", .glo "Train", .cls "Train", .noat "Train" "pairs", .mkr "Train", .glo "Hoist", .cls "Hoist", .noat "Hoist" "floors", .noat "Hoist" "bears", .noat "Hoist" "loaded", .noat "Hoist" "bare", .noat "Hoist" "at", .mkr "Hoist", .meth "Hoist" "go", .glo "Row", .cls "Row", .noat "Row" "lots", .mkr "Row", .meth "Row" "next_lot", .glo "BadSize", .exc "BadSize", .glo "BadPlan", .exc "BadPlan", .glo "NoSuch", .exc "NoSuch", .glo "NoRoom", .exc "NoRoom", .glo "NoWay", .exc "NoWay", .glo "Short", .exc "Short", .glo "BadText", .glo "BadDeed", .exc "BadDeed", .glo "MillFault", .glo "SIDES", .free "ValueError", .free "abs", .free "any", .free "int", .free "isinstance", .free "len", .free "min", .free "range", .free "sum", .free "super"]
def tf : List He.Defn := [("Barn", some "held"), ("Train", some "__init__"), ("read_row", none), ("law", none)]
def excF (K : PySem.W.Frag) : Nat → Addr := fun n => match n with
    | 0 => He.ga K "MillFault"
    | 1 => He.ga K "BadSize"
    | 2 => He.ga K "BadPlan"
    | 3 => He.ga K "NoSuch"
    | 4 => He.ga K "NoRoom"
    | 5 => He.ga K "NoWay"
    | 6 => He.ga K "Short"
    | 7 => He.ga K "BadText"
    | 8 => He.ga K "BadDeed"
    | _ => 0
def ex (K : PySem.W.Frag) : Bool := decide ((tf.map fun p => (He.cT K p).2).Nodup) && conB K 5 K_SIDES (.ref (He.ga K "SIDES")) && conN K (He.ga K "SIDES") && btB K PySem.Challenge.pw_millhall_k21_refusals_apart.main.file (He.ga K "BadText") && csE.all (fun c => excCB K (excF K c)) && csE.all (fun c => csE.all fun y => PySem.W.kitOne K (.ref (excF K c)) (.ref (excF K y)) == some (c == y)) && csE.all (fun c => PySem.W.kitOne K (.ref (excF K c)) (.type "ValueError") == some true) && csE.all (fun c => PySem.W.exmOne K (.ref (excF K c)) (.ref (He.ga K "MillFault")) == some true)
def nm_Barn_held : Nat → Nat → Str := fun _ _ => "Barn.held.<locals>.<genexpr>"
def nm_Train_init : Nat → Nat → Str := fun _ _ => "Train.__init__.<locals>.<genexpr>"
def nm_read_row : Nat → Nat → Str := fun _ _ => "read_row.<locals>.<genexpr>"
def nm_law : Nat → Nat → Str := fun _ _ => "law.<locals>.<lambda>"
def kqN : Option Str := none
def knN : Nat → Nat → Str := fun _ _ => ""
def MM (K : PySem.W.Frag) (φ : DL.Clo) : Mp where
  clo := φ.f
  cloM := φ.m
  exc := excF K
  cls := fun n => match n with
    | 0 => He.ga K "Barn"
    | 1 => He.ga K "Line"
    | 2 => He.ga K "Pages"
    | 3 => He.ga K "Desk"
    | 4 => He.ga K "Train"
    | 5 => He.ga K "Hoist"
    | 6 => He.ga K "Row"
    | _ => 0
  flds := fun n => match n with
    | 0 => ["room", "heaps"]
    | 1 => ["day", "deed", "owner", "kind", "bushels"]
    | 2 => ["rows"]
    | 3 => ["text", "deeds", "undone"]
    | 4 => ["pairs"]
    | 5 => ["floors", "bears", "loaded", "bare", "at"]
    | 6 => ["lots"]
    | _ => []
  row := "row"
  raw := true
  tabs := { l := [((He.cT K ("Barn", some "held")).2, nm_Barn_held), ((He.cT K ("Train", some "__init__")).2, nm_Train_init), ((He.cT K ("read_row", none)).2, nm_read_row), ((He.cT K ("law", none)).2, nm_law)], kq := kqN, kn := knN }
structure Txt (w : World) (K : PySem.W.Frag) (mg : Str → Option Value) (base h : Heap) : Prop where
  KX : K.In h
  G : h.Ns mainGlobals mg
  c : He.SaysX fa fn [] tf ex w h K
  TB : ∀ p ∈ tf, LamX.TabB base mg (He.cT K p).1 (He.cT K p).2
section
variable {w : World} {K : PySem.W.Frag} {mg : Str → Option Value} {base h : Heap} {φ : DL.Clo}
theorem g_law_under (T : Txt w K mg base h) : mg "_law_under" = some (.ref (He.fAd K ("_law_under", none))) := He.glo_ok T.KX T.G (T.c.t.d.fact 0 (f := .glo "_law_under") rfl)
theorem g_law_roll (T : Txt w K mg base h) : mg "_law_roll" = some (.ref (He.fAd K ("_law_roll", none))) := He.glo_ok T.KX T.G (T.c.t.d.fact 1 (f := .glo "_law_roll") rfl)
theorem g_law_dice (T : Txt w K mg base h) : mg "_law_dice" = some (.ref (He.fAd K ("_law_dice", none))) := He.glo_ok T.KX T.G (T.c.t.d.fact 2 (f := .glo "_law_dice") rfl)
theorem g_law_rounds (T : Txt w K mg base h) : mg "_law_rounds" = some (.ref (He.fAd K ("_law_rounds", none))) := He.glo_ok T.KX T.G (T.c.t.d.fact 3 (f := .glo "_law_rounds") rfl)
theorem g_notched (T : Txt w K mg base h) : mg "notched" = some (.ref (He.fAd K ("notched", none))) := He.glo_ok T.KX T.G (T.c.t.d.fact 4 (f := .glo "notched") rfl)
theorem g_read_row (T : Txt w K mg base h) : mg "read_row" = some (.ref (He.fAd K ("read_row", none))) := He.glo_ok T.KX T.G (T.c.t.d.fact 5 (f := .glo "read_row") rfl)
theorem g_side_on (T : Txt w K mg base h) : mg "side_on" = some (.ref (He.fAd K ("side_on", none))) := He.glo_ok T.KX T.G (T.c.t.d.fact 6 (f := .glo "side_on") rfl)
theorem g_Barn (T : Txt w K mg base h) : mg "Barn" = some (.ref ((MM K φ).cls 0)) := He.glo_ok T.KX T.G (T.c.t.d.fact 8 (f := .glo "Barn") rfl)
theorem Txt.cls0 (T : Txt w K mg base h) : ClsOk K (MM K φ) 0 where
  cl := He.cls_ok (T.c.t.d.fact 9 (f := .cls "Barn") rfl)
  no := fun f hf => by
    have hf2 : f ∈ (["room", "heaps"] : List Str) := hf
    simp only [List.mem_cons, List.not_mem_nil, or_false] at hf2
    rcases hf2 with rfl | rfl
    · exact He.noat_ok (T.c.t.d.fact 10 (f := .noat "Barn" "room") rfl)
    · exact He.noat_ok (T.c.t.d.fact 11 (f := .noat "Barn" "heaps") rfl)
  nd := by show (["room", "heaps"] : List Str).Nodup; decide +kernel
  few := by show (["room", "heaps"] : List Str).length < 1000; decide
theorem mk_Barn (T : Txt w K mg base h) : Mk K ((MM K φ).cls 0) (He.fAd K ("Barn", some "__init__")) := He.mkr_ok (T.c.t.d.fact 12 (f := .mkr "Barn") rfl)
theorem me_Barn_held (T : Txt w K mg base h) : Meth K ((MM K φ).cls 0) "held" (He.fAd K ("Barn", some "held")) := He.meth_ok (T.c.t.d.fact 13 (f := .meth "Barn" "held") rfl)
theorem me_Barn_draw (T : Txt w K mg base h) : Meth K ((MM K φ).cls 0) "draw" (He.fAd K ("Barn", some "draw")) := He.meth_ok (T.c.t.d.fact 14 (f := .meth "Barn" "draw") rfl)
theorem Txt.cls1 (T : Txt w K mg base h) : ClsOk K (MM K φ) 1 where
  cl := He.cls_ok (T.c.t.d.fact 16 (f := .cls "Line") rfl)
  no := fun f hf => by
    have hf2 : f ∈ (["day", "deed", "owner", "kind", "bushels"] : List Str) := hf
    simp only [List.mem_cons, List.not_mem_nil, or_false] at hf2
    rcases hf2 with rfl | rfl | rfl | rfl | rfl
    · exact He.noat_ok (T.c.t.d.fact 17 (f := .noat "Line" "day") rfl)
    · exact He.noat_ok (T.c.t.d.fact 18 (f := .noat "Line" "deed") rfl)
    · exact He.noat_ok (T.c.t.d.fact 19 (f := .noat "Line" "owner") rfl)
    · exact He.noat_ok (T.c.t.d.fact 20 (f := .noat "Line" "kind") rfl)
    · exact He.noat_ok (T.c.t.d.fact 21 (f := .noat "Line" "bushels") rfl)
  nd := by show (["day", "deed", "owner", "kind", "bushels"] : List Str).Nodup; decide +kernel
  few := by show (["day", "deed", "owner", "kind", "bushels"] : List Str).length < 1000; decide
theorem g_Desk (T : Txt w K mg base h) : mg "Desk" = some (.ref ((MM K φ).cls 3)) := He.glo_ok T.KX T.G (T.c.t.d.fact 22 (f := .glo "Desk") rfl)
theorem Txt.cls3 (T : Txt w K mg base h) : ClsOk K (MM K φ) 3 where
  cl := He.cls_ok (T.c.t.d.fact 23 (f := .cls "Desk") rfl)
  no := fun f hf => by
    have hf2 : f ∈ (["text", "deeds", "undone"] : List Str) := hf
    simp only [List.mem_cons, List.not_mem_nil, or_false] at hf2
    rcases hf2 with rfl | rfl | rfl
    · exact He.noat_ok (T.c.t.d.fact 24 (f := .noat "Desk" "text") rfl)
    · exact He.noat_ok (T.c.t.d.fact 25 (f := .noat "Desk" "deeds") rfl)
    · exact He.noat_ok (T.c.t.d.fact 26 (f := .noat "Desk" "undone") rfl)
  nd := by show (["text", "deeds", "undone"] : List Str).Nodup; decide +kernel
  few := by show (["text", "deeds", "undone"] : List Str).length < 1000; decide
theorem mk_Desk (T : Txt w K mg base h) : Mk K ((MM K φ).cls 3) (He.fAd K ("Desk", some "__init__")) := He.mkr_ok (T.c.t.d.fact 27 (f := .mkr "Desk") rfl)
theorem me_Desk_undo (T : Txt w K mg base h) : Meth K ((MM K φ).cls 3) "undo" (He.fAd K ("Desk", some "undo")) := He.meth_ok (T.c.t.d.fact 28 (f := .meth "Desk" "undo") rfl)
theorem g_Train (T : Txt w K mg base h) : mg "Train" = some (.ref ((MM K φ).cls 4)) := He.glo_ok T.KX T.G (T.c.t.d.fact 29 (f := .glo "Train") rfl)
theorem mk_Train (T : Txt w K mg base h) : Mk K ((MM K φ).cls 4) (He.fAd K ("Train", some "__init__")) := He.mkr_ok (T.c.t.d.fact 32 (f := .mkr "Train") rfl)
theorem g_Hoist (T : Txt w K mg base h) : mg "Hoist" = some (.ref ((MM K φ).cls 5)) := He.glo_ok T.KX T.G (T.c.t.d.fact 33 (f := .glo "Hoist") rfl)
theorem Txt.cls5 (T : Txt w K mg base h) : ClsOk K (MM K φ) 5 where
  cl := He.cls_ok (T.c.t.d.fact 34 (f := .cls "Hoist") rfl)
  no := fun f hf => by
    have hf2 : f ∈ (["floors", "bears", "loaded", "bare", "at"] : List Str) := hf
    simp only [List.mem_cons, List.not_mem_nil, or_false] at hf2
    rcases hf2 with rfl | rfl | rfl | rfl | rfl
    · exact He.noat_ok (T.c.t.d.fact 35 (f := .noat "Hoist" "floors") rfl)
    · exact He.noat_ok (T.c.t.d.fact 36 (f := .noat "Hoist" "bears") rfl)
    · exact He.noat_ok (T.c.t.d.fact 37 (f := .noat "Hoist" "loaded") rfl)
    · exact He.noat_ok (T.c.t.d.fact 38 (f := .noat "Hoist" "bare") rfl)
    · exact He.noat_ok (T.c.t.d.fact 39 (f := .noat "Hoist" "at") rfl)
  nd := by show (["floors", "bears", "loaded", "bare", "at"] : List Str).Nodup; decide +kernel
  few := by show (["floors", "bears", "loaded", "bare", "at"] : List Str).length < 1000; decide
theorem mk_Hoist (T : Txt w K mg base h) : Mk K ((MM K φ).cls 5) (He.fAd K ("Hoist", some "__init__")) := He.mkr_ok (T.c.t.d.fact 40 (f := .mkr "Hoist") rfl)
theorem me_Hoist_go (T : Txt w K mg base h) : Meth K ((MM K φ).cls 5) "go" (He.fAd K ("Hoist", some "go")) := He.meth_ok (T.c.t.d.fact 41 (f := .meth "Hoist" "go") rfl)
theorem g_Row (T : Txt w K mg base h) : mg "Row" = some (.ref ((MM K φ).cls 6)) := He.glo_ok T.KX T.G (T.c.t.d.fact 42 (f := .glo "Row") rfl)
theorem Txt.cls6 (T : Txt w K mg base h) : ClsOk K (MM K φ) 6 where
  cl := He.cls_ok (T.c.t.d.fact 43 (f := .cls "Row") rfl)
  no := fun f hf => by
    have hf2 : f ∈ (["lots"] : List Str) := hf
    simp only [List.mem_cons, List.not_mem_nil, or_false] at hf2
    rcases hf2 with rfl
    · exact He.noat_ok (T.c.t.d.fact 44 (f := .noat "Row" "lots") rfl)
  nd := by show (["lots"] : List Str).Nodup; decide +kernel
  few := by show (["lots"] : List Str).length < 1000; decide
theorem mk_Row (T : Txt w K mg base h) : Mk K ((MM K φ).cls 6) (He.fAd K ("Row", some "__init__")) := He.mkr_ok (T.c.t.d.fact 45 (f := .mkr "Row") rfl)
theorem me_Row_next_lot (T : Txt w K mg base h) : Meth K ((MM K φ).cls 6) "next_lot" (He.fAd K ("Row", some "next_lot")) := He.meth_ok (T.c.t.d.fact 46 (f := .meth "Row" "next_lot") rfl)
theorem ge_BadSize (T : Txt w K mg base h) : mg "BadSize" = some (.ref ((MM K φ).exc 1)) := He.glo_ok T.KX T.G (T.c.t.d.fact 47 (f := .glo "BadSize") rfl)
theorem Txt.exc_BadSize (T : Txt w K mg base h) : ExcOk K mg (MM K φ) 1 "BadSize" := by
  obtain ⟨a, b, c, d⟩ := He.exc_ok (T.c.t.d.fact 48 (f := .exc "BadSize") rfl)
  exact ⟨He.glo_ok T.KX T.G (T.c.t.d.fact 47 (f := .glo "BadSize") rfl), a, b, c, d⟩
theorem ge_BadPlan (T : Txt w K mg base h) : mg "BadPlan" = some (.ref ((MM K φ).exc 2)) := He.glo_ok T.KX T.G (T.c.t.d.fact 49 (f := .glo "BadPlan") rfl)
theorem Txt.exc_BadPlan (T : Txt w K mg base h) : ExcOk K mg (MM K φ) 2 "BadPlan" := by
  obtain ⟨a, b, c, d⟩ := He.exc_ok (T.c.t.d.fact 50 (f := .exc "BadPlan") rfl)
  exact ⟨He.glo_ok T.KX T.G (T.c.t.d.fact 49 (f := .glo "BadPlan") rfl), a, b, c, d⟩
theorem ge_NoSuch (T : Txt w K mg base h) : mg "NoSuch" = some (.ref ((MM K φ).exc 3)) := He.glo_ok T.KX T.G (T.c.t.d.fact 51 (f := .glo "NoSuch") rfl)
theorem Txt.exc_NoSuch (T : Txt w K mg base h) : ExcOk K mg (MM K φ) 3 "NoSuch" := by
  obtain ⟨a, b, c, d⟩ := He.exc_ok (T.c.t.d.fact 52 (f := .exc "NoSuch") rfl)
  exact ⟨He.glo_ok T.KX T.G (T.c.t.d.fact 51 (f := .glo "NoSuch") rfl), a, b, c, d⟩
theorem ge_NoRoom (T : Txt w K mg base h) : mg "NoRoom" = some (.ref ((MM K φ).exc 4)) := He.glo_ok T.KX T.G (T.c.t.d.fact 53 (f := .glo "NoRoom") rfl)
theorem Txt.exc_NoRoom (T : Txt w K mg base h) : ExcOk K mg (MM K φ) 4 "NoRoom" := by
  obtain ⟨a, b, c, d⟩ := He.exc_ok (T.c.t.d.fact 54 (f := .exc "NoRoom") rfl)
  exact ⟨He.glo_ok T.KX T.G (T.c.t.d.fact 53 (f := .glo "NoRoom") rfl), a, b, c, d⟩
theorem ge_NoWay (T : Txt w K mg base h) : mg "NoWay" = some (.ref ((MM K φ).exc 5)) := He.glo_ok T.KX T.G (T.c.t.d.fact 55 (f := .glo "NoWay") rfl)
theorem Txt.exc_NoWay (T : Txt w K mg base h) : ExcOk K mg (MM K φ) 5 "NoWay" := by
  obtain ⟨a, b, c, d⟩ := He.exc_ok (T.c.t.d.fact 56 (f := .exc "NoWay") rfl)
  exact ⟨He.glo_ok T.KX T.G (T.c.t.d.fact 55 (f := .glo "NoWay") rfl), a, b, c, d⟩
theorem ge_Short (T : Txt w K mg base h) : mg "Short" = some (.ref ((MM K φ).exc 6)) := He.glo_ok T.KX T.G (T.c.t.d.fact 57 (f := .glo "Short") rfl)
theorem Txt.exc_Short (T : Txt w K mg base h) : ExcOk K mg (MM K φ) 6 "Short" := by
  obtain ⟨a, b, c, d⟩ := He.exc_ok (T.c.t.d.fact 58 (f := .exc "Short") rfl)
  exact ⟨He.glo_ok T.KX T.G (T.c.t.d.fact 57 (f := .glo "Short") rfl), a, b, c, d⟩
theorem ge_BadText (T : Txt w K mg base h) : mg "BadText" = some (.ref ((MM K φ).exc 7)) := He.glo_ok T.KX T.G (T.c.t.d.fact 59 (f := .glo "BadText") rfl)
theorem ge_BadDeed (T : Txt w K mg base h) : mg "BadDeed" = some (.ref ((MM K φ).exc 8)) := He.glo_ok T.KX T.G (T.c.t.d.fact 60 (f := .glo "BadDeed") rfl)
theorem Txt.exc_BadDeed (T : Txt w K mg base h) : ExcOk K mg (MM K φ) 8 "BadDeed" := by
  obtain ⟨a, b, c, d⟩ := He.exc_ok (T.c.t.d.fact 61 (f := .exc "BadDeed") rfl)
  exact ⟨He.glo_ok T.KX T.G (T.c.t.d.fact 60 (f := .glo "BadDeed") rfl), a, b, c, d⟩
theorem Txt.gc_SIDES (T : Txt w K mg base h) : mg "SIDES" = some (.ref (He.ga K "SIDES")) := He.glo_ok T.KX T.G (T.c.t.d.fact 63 (f := .glo "SIDES") rfl)
theorem Txt.con_SIDES (T : Txt w K mg base h) : conB K 5 K_SIDES (.ref (He.ga K "SIDES")) = true := (((((((T.c.more |> He.ba).1 |> He.ba).1 |> He.ba).1 |> He.ba).1 |> He.ba).1 |> He.ba).1 |> He.ba).2
theorem Txt.f_ValueError (T : Txt w K mg base h) : mg "ValueError" = none := He.free_ok T.KX T.G (T.c.t.d.fact 64 (f := .free "ValueError") rfl)
theorem Txt.f_abs (T : Txt w K mg base h) : mg "abs" = none := He.free_ok T.KX T.G (T.c.t.d.fact 65 (f := .free "abs") rfl)
theorem Txt.f_any (T : Txt w K mg base h) : mg "any" = none := He.free_ok T.KX T.G (T.c.t.d.fact 66 (f := .free "any") rfl)
theorem Txt.f_int (T : Txt w K mg base h) : mg "int" = none := He.free_ok T.KX T.G (T.c.t.d.fact 67 (f := .free "int") rfl)
theorem Txt.f_isinstance (T : Txt w K mg base h) : mg "isinstance" = none := He.free_ok T.KX T.G (T.c.t.d.fact 68 (f := .free "isinstance") rfl)
theorem Txt.f_len (T : Txt w K mg base h) : mg "len" = none := He.free_ok T.KX T.G (T.c.t.d.fact 69 (f := .free "len") rfl)
theorem Txt.f_min (T : Txt w K mg base h) : mg "min" = none := He.free_ok T.KX T.G (T.c.t.d.fact 70 (f := .free "min") rfl)
theorem Txt.f_range (T : Txt w K mg base h) : mg "range" = none := He.free_ok T.KX T.G (T.c.t.d.fact 71 (f := .free "range") rfl)
theorem Txt.f_sum (T : Txt w K mg base h) : mg "sum" = none := He.free_ok T.KX T.G (T.c.t.d.fact 72 (f := .free "sum") rfl)
theorem Txt.f_super (T : Txt w K mg base h) : mg "super" = none := He.free_ok T.KX T.G (T.c.t.d.fact 73 (f := .free "super") rfl)
theorem Txt.excR_BadText (T : Txt w K mg base h) : ExcR PySem.Challenge.pw_millhall_k21_refusals_apart w K mg base (MM K φ) 7 "BadText" := excR_of ((((((T.c.more |> He.ba).1 |> He.ba).1 |> He.ba).1 |> He.ba).1 |> He.ba).2) rfl (by decide +kernel) T.f_super (ge_BadText T) rfl
theorem ge_MillFault (T : Txt w K mg base h) : mg "MillFault" = some (.ref (He.ga K "MillFault")) := He.glo_ok T.KX T.G (T.c.t.d.fact 62 (f := .glo "MillFault") rfl)
theorem Txt.xc (T : Txt w K mg base h) (c : Nat) (hc : c ∈ csE) : ExcC K ((MM K DL.Clo.nil).exc c) := excC_of (List.all_eq_true.mp (((((T.c.more |> He.ba).1 |> He.ba).1 |> He.ba).1 |> He.ba).2) c hc)
theorem Txt.ki (T : Txt w K mg base h) (c : Nat) (hc : c ∈ csE) (y : Nat) (hy : y ∈ csE) : PySem.W.kitOne K (.ref ((MM K DL.Clo.nil).exc c)) (.ref ((MM K DL.Clo.nil).exc y)) = some (c == y) := beq_iff_eq.mp (List.all_eq_true.mp (List.all_eq_true.mp ((((T.c.more |> He.ba).1 |> He.ba).1 |> He.ba).2) c hc) y hy)
theorem Txt.kv (T : Txt w K mg base h) (c : Nat) (hc : c ∈ csE) : PySem.W.kitOne K (.ref ((MM K DL.Clo.nil).exc c)) (.type "ValueError") = some true := beq_iff_eq.mp (List.all_eq_true.mp (((T.c.more |> He.ba).1 |> He.ba).2) c hc)
theorem Txt.xmi (T : Txt w K mg base h) (c : Nat) (hc : c ∈ csE) : PySem.W.exmOne K (.ref ((MM K DL.Clo.nil).exc c)) (.ref (He.ga K "MillFault")) = some true := beq_iff_eq.mp (List.all_eq_true.mp ((T.c.more |> He.ba).2) c hc)
def clos : List Lm := match defBody s_law with
  | .For _ _ body _ _ :: _ => lmsIn body
  | _ => []
theorem Txt.tb (T : Txt w K mg base h) (p : He.Defn) (hp : p ∈ tf) : LamX.TabB base mg (He.cT K p).1 (He.cT K p).2 := T.TB p hp
noncomputable def fd_law_under (T : Txt w K mg base h) : FuncData := Classical.choose (T.c.t.d.def_ 0 (d := d_law_under) rfl)
theorem F_law_under (T : Txt w K mg base h) : Fun K "_law_under" "_law_under" s_law_under (He.fAd K ("_law_under", none)) (fd_law_under T) := funOfD (Classical.choose_spec (T.c.t.d.def_ 0 (d := d_law_under) rfl))
theorem b_law_under (T : Txt w K mg base h) : L2.Binds K (fd_law_under T) ["what"] [] := (F_law_under T).binds (ps := ["what"]) fun _ _ _ _ _ _ us hl => match us, hl with | [_], _ => rfl
theorem sc_law_under : FnScope ["what", "e", "some"] ["what"] (defScope s_law_under) := ⟨rfl, rfl, rfl, by decide +kernel, rfl, by decide +kernel, by decide +kernel⟩
noncomputable def fd_Barn_init (T : Txt w K mg base h) : FuncData := Classical.choose (T.c.t.d.def_ 1 (d := d_Barn_init) rfl)
theorem F_Barn_init (T : Txt w K mg base h) : Fun K "__init__" "Barn.__init__" s_Barn_init (He.fAd K ("Barn", some "__init__")) (fd_Barn_init T) := funOfD (Classical.choose_spec (T.c.t.d.def_ 1 (d := d_Barn_init) rfl))
theorem b_Barn_init (T : Txt w K mg base h) : L2.Binds K (fd_Barn_init T) ["self", "room"] [] := (F_Barn_init T).binds (ps := ["self", "room"]) fun _ _ _ _ _ _ us hl => match us, hl with | [_, _], _ => rfl
theorem sc_Barn_init : FnScope ["self", "room"] ["self", "room"] (defScope s_Barn_init) := ⟨rfl, rfl, rfl, by decide +kernel, rfl, by decide +kernel, by decide +kernel⟩
noncomputable def fd_Barn_held (T : Txt w K mg base h) : FuncData := Classical.choose (T.c.t.d.def_ 2 (d := d_Barn_held) rfl)
theorem F_Barn_held (T : Txt w K mg base h) : Fun K "held" "Barn.held" s_Barn_held (He.fAd K ("Barn", some "held")) (fd_Barn_held T) := funOfD (Classical.choose_spec (T.c.t.d.def_ 2 (d := d_Barn_held) rfl))
theorem b_Barn_held (T : Txt w K mg base h) : L2.Binds K (fd_Barn_held T) ["self", "kind"] [] := (F_Barn_held T).binds (ps := ["self", "kind"]) fun _ _ _ _ _ _ us hl => match us, hl with | [_, _], _ => rfl
theorem sc_Barn_held : FnScope ["self", "kind", "one", "year", "bushels"] ["self", "kind"] (defScope s_Barn_held) := ⟨rfl, rfl, rfl, by decide +kernel, rfl, by decide +kernel, by decide +kernel⟩
noncomputable def fd_Barn_draw (T : Txt w K mg base h) : FuncData := Classical.choose (T.c.t.d.def_ 3 (d := d_Barn_draw) rfl)
theorem F_Barn_draw (T : Txt w K mg base h) : Fun K "draw" "Barn.draw" s_Barn_draw (He.fAd K ("Barn", some "draw")) (fd_Barn_draw T) := funOfD (Classical.choose_spec (T.c.t.d.def_ 3 (d := d_Barn_draw) rfl))
theorem b_Barn_draw (T : Txt w K mg base h) : L2.Binds K (fd_Barn_draw T) ["self", "kind", "bushels"] [] := (F_Barn_draw T).binds (ps := ["self", "kind", "bushels"]) fun _ _ _ _ _ _ us hl => match us, hl with | [_, _, _], _ => rfl
theorem sc_Barn_draw : FnScope ["self", "kind", "bushels", "rows", "drawn", "one", "year", "many", "part"] ["self", "kind", "bushels"] (defScope s_Barn_draw) := ⟨rfl, rfl, rfl, by decide +kernel, rfl, by decide +kernel, by decide +kernel⟩
noncomputable def fd_Desk_init (T : Txt w K mg base h) : FuncData := Classical.choose (T.c.t.d.def_ 4 (d := d_Desk_init) rfl)
theorem F_Desk_init (T : Txt w K mg base h) : Fun K "__init__" "Desk.__init__" s_Desk_init (He.fAd K ("Desk", some "__init__")) (fd_Desk_init T) := funOfD (Classical.choose_spec (T.c.t.d.def_ 4 (d := d_Desk_init) rfl))
theorem b_Desk_init (T : Txt w K mg base h) : L2.Binds K (fd_Desk_init T) ["self"] [] := (F_Desk_init T).binds (ps := ["self"]) fun _ _ _ _ _ _ us hl => match us, hl with | [_], _ => rfl
theorem sc_Desk_init : FnScope ["self"] ["self"] (defScope s_Desk_init) := ⟨rfl, rfl, rfl, by decide +kernel, rfl, by decide +kernel, by decide +kernel⟩
noncomputable def fd_Desk_undo (T : Txt w K mg base h) : FuncData := Classical.choose (T.c.t.d.def_ 5 (d := d_Desk_undo) rfl)
theorem F_Desk_undo (T : Txt w K mg base h) : Fun K "undo" "Desk.undo" s_Desk_undo (He.fAd K ("Desk", some "undo")) (fd_Desk_undo T) := funOfD (Classical.choose_spec (T.c.t.d.def_ 5 (d := d_Desk_undo) rfl))
theorem b_Desk_undo (T : Txt w K mg base h) : L2.Binds K (fd_Desk_undo T) ["self"] [] := (F_Desk_undo T).binds (ps := ["self"]) fun _ _ _ _ _ _ us hl => match us, hl with | [_], _ => rfl
theorem sc_Desk_undo : FnScope ["self", "deed"] ["self"] (defScope s_Desk_undo) := ⟨rfl, rfl, rfl, by decide +kernel, rfl, by decide +kernel, by decide +kernel⟩
noncomputable def fd_Hoist_init (T : Txt w K mg base h) : FuncData := Classical.choose (T.c.t.d.def_ 6 (d := d_Hoist_init) rfl)
theorem F_Hoist_init (T : Txt w K mg base h) : Fun K "__init__" "Hoist.__init__" s_Hoist_init (He.fAd K ("Hoist", some "__init__")) (fd_Hoist_init T) := funOfD (Classical.choose_spec (T.c.t.d.def_ 6 (d := d_Hoist_init) rfl))
theorem b_Hoist_init (T : Txt w K mg base h) : L2.Binds K (fd_Hoist_init T) ["self", "floors", "bears", "loaded", "bare", "at"] [] := (F_Hoist_init T).binds (ps := ["self", "floors", "bears", "loaded", "bare", "at"]) fun _ _ _ _ _ _ us hl => match us, hl with | [_, _, _, _, _, _], _ => rfl
theorem sc_Hoist_init : FnScope ["self", "floors", "bears", "loaded", "bare", "at"] ["self", "floors", "bears", "loaded", "bare", "at"] (defScope s_Hoist_init) := ⟨rfl, rfl, rfl, by decide +kernel, rfl, by decide +kernel, by decide +kernel⟩
noncomputable def fd_Hoist_go (T : Txt w K mg base h) : FuncData := Classical.choose (T.c.t.d.def_ 7 (d := d_Hoist_go) rfl)
theorem F_Hoist_go (T : Txt w K mg base h) : Fun K "go" "Hoist.go" s_Hoist_go (He.fAd K ("Hoist", some "go")) (fd_Hoist_go T) := funOfD (Classical.choose_spec (T.c.t.d.def_ 7 (d := d_Hoist_go) rfl))
theorem b_Hoist_go (T : Txt w K mg base h) : L2.Binds K (fd_Hoist_go T) ["self", "one", "other", "weight"] [] := (F_Hoist_go T).binds (ps := ["self", "one", "other", "weight"]) fun _ _ _ _ _ _ us hl => match us, hl with | [_, _, _, _], _ => rfl
theorem sc_Hoist_go : FnScope ["self", "one", "other", "weight", "minutes"] ["self", "one", "other", "weight"] (defScope s_Hoist_go) := ⟨rfl, rfl, rfl, by decide +kernel, rfl, by decide +kernel, by decide +kernel⟩
noncomputable def fd_Row_init (T : Txt w K mg base h) : FuncData := Classical.choose (T.c.t.d.def_ 8 (d := d_Row_init) rfl)
theorem F_Row_init (T : Txt w K mg base h) : Fun K "__init__" "Row.__init__" s_Row_init (He.fAd K ("Row", some "__init__")) (fd_Row_init T) := funOfD (Classical.choose_spec (T.c.t.d.def_ 8 (d := d_Row_init) rfl))
theorem b_Row_init (T : Txt w K mg base h) : L2.Binds K (fd_Row_init T) ["self"] [] := (F_Row_init T).binds (ps := ["self"]) fun _ _ _ _ _ _ us hl => match us, hl with | [_], _ => rfl
theorem sc_Row_init : FnScope ["self"] ["self"] (defScope s_Row_init) := ⟨rfl, rfl, rfl, by decide +kernel, rfl, by decide +kernel, by decide +kernel⟩
noncomputable def fd_Row_next_lot (T : Txt w K mg base h) : FuncData := Classical.choose (T.c.t.d.def_ 9 (d := d_Row_next_lot) rfl)
theorem F_Row_next_lot (T : Txt w K mg base h) : Fun K "next_lot" "Row.next_lot" s_Row_next_lot (He.fAd K ("Row", some "next_lot")) (fd_Row_next_lot T) := funOfD (Classical.choose_spec (T.c.t.d.def_ 9 (d := d_Row_next_lot) rfl))
theorem b_Row_next_lot (T : Txt w K mg base h) : L2.Binds K (fd_Row_next_lot T) ["self", "kind"] [] := (F_Row_next_lot T).binds (ps := ["self", "kind"]) fun _ _ _ _ _ _ us hl => match us, hl with | [_, _], _ => rfl
theorem sc_Row_next_lot : FnScope ["self", "kind", "rows", "lot"] ["self", "kind"] (defScope s_Row_next_lot) := ⟨rfl, rfl, rfl, by decide +kernel, rfl, by decide +kernel, by decide +kernel⟩
noncomputable def fd_Train_init (T : Txt w K mg base h) : FuncData := Classical.choose (T.c.t.d.def_ 10 (d := d_Train_init) rfl)
theorem F_Train_init (T : Txt w K mg base h) : Fun K "__init__" "Train.__init__" s_Train_init (He.fAd K ("Train", some "__init__")) (fd_Train_init T) := funOfD (Classical.choose_spec (T.c.t.d.def_ 10 (d := d_Train_init) rfl))
theorem b_Train_init (T : Txt w K mg base h) : L2.Binds K (fd_Train_init T) ["self", "pairs"] [] := (F_Train_init T).binds (ps := ["self", "pairs"]) fun _ _ _ _ _ _ us hl => match us, hl with | [_, _], _ => rfl
theorem sc_Train_init : FnScope ["self", "pairs", "pair"] ["self", "pairs"] (defScope s_Train_init) := ⟨rfl, rfl, rfl, by decide +kernel, rfl, by decide +kernel, by decide +kernel⟩
noncomputable def fd_law_roll (T : Txt w K mg base h) : FuncData := Classical.choose (T.c.t.d.def_ 11 (d := d_law_roll) rfl)
theorem F_law_roll (T : Txt w K mg base h) : Fun K "_law_roll" "_law_roll" s_law_roll (He.fAd K ("_law_roll", none)) (fd_law_roll T) := funOfD (Classical.choose_spec (T.c.t.d.def_ 11 (d := d_law_roll) rfl))
theorem b_law_roll (T : Txt w K mg base h) : L2.Binds K (fd_law_roll T) ["dice", "many"] [] := (F_law_roll T).binds (ps := ["dice", "many"]) fun _ _ _ _ _ _ us hl => match us, hl with | [_, _], _ => rfl
theorem k_law_roll (T : Txt w K mg base h) : PySem.W.keepIn K (.ref (He.fAd K ("_law_roll", none))) = true := (F_law_roll T).kp
theorem sc_law_roll : FnScope ["dice", "many", "found"] ["dice", "many"] (defScope s_law_roll) := ⟨rfl, rfl, rfl, by decide +kernel, rfl, by decide +kernel, by decide +kernel⟩
noncomputable def fd_law_dice (T : Txt w K mg base h) : FuncData := Classical.choose (T.c.t.d.def_ 12 (d := d_law_dice) rfl)
theorem F_law_dice (T : Txt w K mg base h) : Fun K "_law_dice" "_law_dice" s_law_dice (He.fAd K ("_law_dice", none)) (fd_law_dice T) := funOfD (Classical.choose_spec (T.c.t.d.def_ 12 (d := d_law_dice) rfl))
theorem b_law_dice (T : Txt w K mg base h) : L2.Binds K (fd_law_dice T) ["cell"] [] := (F_law_dice T).binds (ps := ["cell"]) fun _ _ _ _ _ _ us hl => match us, hl with | [_], _ => rfl
theorem k_law_dice (T : Txt w K mg base h) : PySem.W.keepIn K (.ref (He.fAd K ("_law_dice", none))) = true := (F_law_dice T).kp
theorem sc_law_dice : FnScope ["cell"] ["cell"] (defScope s_law_dice) := ⟨rfl, rfl, rfl, by decide +kernel, rfl, by decide +kernel, by decide +kernel⟩
noncomputable def fd_law_rounds (T : Txt w K mg base h) : FuncData := Classical.choose (T.c.t.d.def_ 13 (d := d_law_rounds) rfl)
theorem F_law_rounds (T : Txt w K mg base h) : Fun K "_law_rounds" "_law_rounds" s_law_rounds (He.fAd K ("_law_rounds", none)) (fd_law_rounds T) := funOfD (Classical.choose_spec (T.c.t.d.def_ 13 (d := d_law_rounds) rfl))
theorem b_law_rounds (T : Txt w K mg base h) : L2.Binds K (fd_law_rounds T) ["script", "most"] [] := (F_law_rounds T).binds (ps := ["script", "most"]) fun _ _ _ _ _ _ us hl => match us, hl with | [_, _], _ => rfl
theorem k_law_rounds (T : Txt w K mg base h) : PySem.W.keepIn K (.ref (He.fAd K ("_law_rounds", none))) = true := (F_law_rounds T).kp
theorem sc_law_rounds : FnScope ["script", "most", "cells", "cell"] ["script", "most"] (defScope s_law_rounds) := ⟨rfl, rfl, rfl, by decide +kernel, rfl, by decide +kernel, by decide +kernel⟩
noncomputable def fd_notched (T : Txt w K mg base h) : FuncData := Classical.choose (T.c.t.d.def_ 14 (d := d_notched) rfl)
theorem F_notched (T : Txt w K mg base h) : Fun K "notched" "notched" s_notched (He.fAd K ("notched", none)) (fd_notched T) := funOfD (Classical.choose_spec (T.c.t.d.def_ 14 (d := d_notched) rfl))
theorem b_notched (T : Txt w K mg base h) : L2.Binds K (fd_notched T) ["number"] [] := (F_notched T).binds (ps := ["number"]) fun _ _ _ _ _ _ us hl => match us, hl with | [_], _ => rfl
theorem k_notched (T : Txt w K mg base h) : PySem.W.keepIn K (.ref (He.fAd K ("notched", none))) = true := (F_notched T).kp
theorem sc_notched : FnScope ["number", "found", "sign", "worth"] ["number"] (defScope s_notched) := ⟨rfl, rfl, rfl, by decide +kernel, rfl, by decide +kernel, by decide +kernel⟩
noncomputable def fd_read_row (T : Txt w K mg base h) : FuncData := Classical.choose (T.c.t.d.def_ 15 (d := d_read_row) rfl)
theorem F_read_row (T : Txt w K mg base h) : Fun K "read_row" "read_row" s_read_row (He.fAd K ("read_row", none)) (fd_read_row T) := funOfD (Classical.choose_spec (T.c.t.d.def_ 15 (d := d_read_row) rfl))
theorem b_read_row (T : Txt w K mg base h) : L2.Binds K (fd_read_row T) ["text"] [] := (F_read_row T).binds (ps := ["text"]) fun _ _ _ _ _ _ us hl => match us, hl with | [_], _ => rfl
theorem k_read_row (T : Txt w K mg base h) : PySem.W.keepIn K (.ref (He.fAd K ("read_row", none))) = true := (F_read_row T).kp
theorem sc_read_row : FnScope ["text", "words", "word", "sign", "found"] ["text"] (defScope s_read_row) := ⟨rfl, rfl, rfl, by decide +kernel, rfl, by decide +kernel, by decide +kernel⟩
noncomputable def fd_side_on (T : Txt w K mg base h) : FuncData := Classical.choose (T.c.t.d.def_ 16 (d := d_side_on) rfl)
theorem F_side_on (T : Txt w K mg base h) : Fun K "side_on" "side_on" s_side_on (He.fAd K ("side_on", none)) (fd_side_on T) := funOfD (Classical.choose_spec (T.c.t.d.def_ 16 (d := d_side_on) rfl))
theorem b_side_on (T : Txt w K mg base h) : L2.Binds K (fd_side_on T) ["side", "steps"] [] := (F_side_on T).binds (ps := ["side", "steps"]) fun _ _ _ _ _ _ us hl => match us, hl with | [_, _], _ => rfl
theorem k_side_on (T : Txt w K mg base h) : PySem.W.keepIn K (.ref (He.fAd K ("side_on", none))) = true := (F_side_on T).kp
theorem sc_side_on : FnScope ["side", "steps"] ["side", "steps"] (defScope s_side_on) := ⟨rfl, rfl, rfl, by decide +kernel, rfl, by decide +kernel, by decide +kernel⟩
noncomputable def fd_law (T : Txt w K mg base h) : FuncData := Classical.choose (T.c.t.d.def_ 17 (d := d_law) rfl)
theorem F_law (T : Txt w K mg base h) : Fun K "law" "law" s_law (He.fAd K ("law", none)) (fd_law T) := funOfD (Classical.choose_spec (T.c.t.d.def_ 17 (d := d_law) rfl))
theorem sc_law : FnScope ["script", "dice", "whats", "k", "many", "desk", "j"] ["script"] (defScope s_law) := ⟨rfl, rfl, rfl, by decide +kernel, rfl, by decide +kernel, by decide +kernel⟩
theorem tabsu_Barn_held (T : Txt w K mg base h) : ∀ p ∈ (MM K φ).tabs.l, p.1 = (He.cT K ("Barn", some "held")).2 → p.2 = nm_Barn_held := by
  have nd : (tf.map fun p => (He.cT K p).2).Nodup := of_decide_eq_true (((((((T.c.more |> He.ba).1 |> He.ba).1 |> He.ba).1 |> He.ba).1 |> He.ba).1 |> He.ba).1 |> He.ba).1
  simp only [tf, List.map_cons, List.map_nil, List.nodup_cons, List.mem_cons, List.not_mem_nil, or_false, not_or] at nd
  intro p hp e
  simp only [MM, List.mem_cons, List.not_mem_nil, or_false] at hp
  rcases hp with rfl | rfl | rfl | rfl
  · rfl
  · exact absurd e (by simp_all [eq_comm])
  · exact absurd e (by simp_all [eq_comm])
  · exact absurd e (by simp_all [eq_comm])
theorem tabs_Barn_held (T : Txt w K mg base h) {q : Str} {pos : Pos} (e : nm_Barn_held pos.line pos.col = q := by first | rfl | decide +kernel) (hq : kqN ≠ some (nm_Barn_held pos.line pos.col) := by first | (intro z; cases z; done) | decide +kernel) : HasT (MM K φ).tabs (He.cT K ("Barn", some "held")).2 q pos := ⟨nm_Barn_held, by simp [MM], e, tabsu_Barn_held T, e ▸ hq⟩
theorem tabsu_Train_init (T : Txt w K mg base h) : ∀ p ∈ (MM K φ).tabs.l, p.1 = (He.cT K ("Train", some "__init__")).2 → p.2 = nm_Train_init := by
  have nd : (tf.map fun p => (He.cT K p).2).Nodup := of_decide_eq_true (((((((T.c.more |> He.ba).1 |> He.ba).1 |> He.ba).1 |> He.ba).1 |> He.ba).1 |> He.ba).1 |> He.ba).1
  simp only [tf, List.map_cons, List.map_nil, List.nodup_cons, List.mem_cons, List.not_mem_nil, or_false, not_or] at nd
  intro p hp e
  simp only [MM, List.mem_cons, List.not_mem_nil, or_false] at hp
  rcases hp with rfl | rfl | rfl | rfl
  · exact absurd e (by simp_all [eq_comm])
  · rfl
  · exact absurd e (by simp_all [eq_comm])
  · exact absurd e (by simp_all [eq_comm])
theorem tabs_Train_init (T : Txt w K mg base h) {q : Str} {pos : Pos} (e : nm_Train_init pos.line pos.col = q := by first | rfl | decide +kernel) (hq : kqN ≠ some (nm_Train_init pos.line pos.col) := by first | (intro z; cases z; done) | decide +kernel) : HasT (MM K φ).tabs (He.cT K ("Train", some "__init__")).2 q pos := ⟨nm_Train_init, by simp [MM], e, tabsu_Train_init T, e ▸ hq⟩
theorem tabsu_read_row (T : Txt w K mg base h) : ∀ p ∈ (MM K φ).tabs.l, p.1 = (He.cT K ("read_row", none)).2 → p.2 = nm_read_row := by
  have nd : (tf.map fun p => (He.cT K p).2).Nodup := of_decide_eq_true (((((((T.c.more |> He.ba).1 |> He.ba).1 |> He.ba).1 |> He.ba).1 |> He.ba).1 |> He.ba).1 |> He.ba).1
  simp only [tf, List.map_cons, List.map_nil, List.nodup_cons, List.mem_cons, List.not_mem_nil, or_false, not_or] at nd
  intro p hp e
  simp only [MM, List.mem_cons, List.not_mem_nil, or_false] at hp
  rcases hp with rfl | rfl | rfl | rfl
  · exact absurd e (by simp_all [eq_comm])
  · exact absurd e (by simp_all [eq_comm])
  · rfl
  · exact absurd e (by simp_all [eq_comm])
theorem tabs_read_row (T : Txt w K mg base h) {q : Str} {pos : Pos} (e : nm_read_row pos.line pos.col = q := by first | rfl | decide +kernel) (hq : kqN ≠ some (nm_read_row pos.line pos.col) := by first | (intro z; cases z; done) | decide +kernel) : HasT (MM K φ).tabs (He.cT K ("read_row", none)).2 q pos := ⟨nm_read_row, by simp [MM], e, tabsu_read_row T, e ▸ hq⟩
theorem tabsu_law (T : Txt w K mg base h) : ∀ p ∈ (MM K φ).tabs.l, p.1 = (He.cT K ("law", none)).2 → p.2 = nm_law := by
  have nd : (tf.map fun p => (He.cT K p).2).Nodup := of_decide_eq_true (((((((T.c.more |> He.ba).1 |> He.ba).1 |> He.ba).1 |> He.ba).1 |> He.ba).1 |> He.ba).1 |> He.ba).1
  simp only [tf, List.map_cons, List.map_nil, List.nodup_cons, List.mem_cons, List.not_mem_nil, or_false, not_or] at nd
  intro p hp e
  simp only [MM, List.mem_cons, List.not_mem_nil, or_false] at hp
  rcases hp with rfl | rfl | rfl | rfl
  · exact absurd e (by simp_all [eq_comm])
  · exact absurd e (by simp_all [eq_comm])
  · exact absurd e (by simp_all [eq_comm])
  · rfl
theorem tabs_law (T : Txt w K mg base h) {q : Str} {pos : Pos} (e : nm_law pos.line pos.col = q := by first | rfl | decide +kernel) (hq : kqN ≠ some (nm_law pos.line pos.col) := by first | (intro z; cases z; done) | decide +kernel) : HasT (MM K φ).tabs (He.cT K ("law", none)).2 q pos := ⟨nm_law, by simp [MM], e, tabsu_law T, e ▸ hq⟩
end
end L21
set_option Elab.async false
set_option linter.all false
set_option maxRecDepth 100000
set_option maxHeartbeats 4000000
namespace L21
open PySem PySem.Spec PyProof.Rows L2 DL
section
abbrev P : Program := PySem.Challenge.pw_millhall_k21_refusals_apart
variable {w : World} {K : PySem.W.Frag} {mg : Str → Option Value} {base h : Heap} {φ : DL.Clo}
theorem ok_Barn_init (T : Txt w K mg base h) : FnOk P w K mg base (L2.CX P w) 1 (He.fAd K ("Barn", some "__init__")) (fd_Barn_init T) ["self", "room"] (SpI K (MM K φ) 0 2 m_Barn_init) := by
  refine in_okT (k := 0) (N := ["self", "room"]) (body := B_Barn_init) (F_Barn_init T) sc_Barn_init fun cdv hcd A outer s H E hr => ?_
  have nd := sc_Barn_init.nd
  have hu := hr.units
  have tk : Takes (cxOf (L2.CX P w) P w K mg base ["self", "room"] "Barn.__init__" (defScope s_Barn_init) (He.fAd K ("Barn", some "__init__")) cdv A outer s H E) (WofE E) := takes_of rfl rfl rfl rfl
  have hW : Flat (WofE E) := fun _ _ _ _ _ z => z
  have hP : PassesOwn (model P w) (A.deeper (envOfC "Barn.__init__" (defScope s_Barn_init) s.heap.objs.size (He.fAd K ("Barn", some "__init__")) cdv)) (envOfC "Barn.__init__" (defScope s_Barn_init) s.heap.objs.size (He.fAd K ("Barn", some "__init__")) cdv) (cxOf (L2.CX P w) P w K mg base ["self", "room"] "Barn.__init__" (defScope s_Barn_init) (He.fAd K ("Barn", some "__init__")) cdv A outer s H E).xe := PassesOwn.leaving
  exact (dss_cons (ds_if (dt_cmp od_lt (db_v 1) (DE.b de_int) (nomark _)) (dss_one (ds_raise (T.exc_BadPlan) tk rfl (da_cons de_str da_nil))) dss_nil)
  (dss_cons (ds_fld (c := 0) (j := 0) T.cls0 (dp_v 0) (de_v 1))
  (dss_one (ds_fld (c := 0) (j := 1) T.cls0 (dp_v 0) (de_tup da_nil)))))
theorem ok_Barn_held (T : Txt w K mg base h) : FnOk P w K mg base (L2.CX P w) 2 (He.fAd K ("Barn", some "held")) (fd_Barn_held T) ["self", "kind"] (SpD K (MM K φ) 2 m_Barn_held) := by
  refine fn_okT (k := 1) (N := ["self", "kind", "one", "year", "bushels"]) (body := B_Barn_held) (F_Barn_held T) sc_Barn_held fun cdv hcd A outer s H E hr => ?_
  have nd := sc_Barn_held.nd
  have hu := hr.units
  have tk : Takes (cxOf (L2.CX P w) P w K mg base ["self", "kind", "one", "year", "bushels"] "Barn.held" (defScope s_Barn_held) (He.fAd K ("Barn", some "held")) cdv A outer s H E) (WofE E) := takes_of rfl rfl rfl rfl
  have hW : Flat (WofE E) := fun _ _ _ _ _ z => z
  have hP : PassesOwn (model P w) (A.deeper (envOfC "Barn.held" (defScope s_Barn_held) s.heap.objs.size (He.fAd K ("Barn", some "held")) cdv)) (envOfC "Barn.held" (defScope s_Barn_held) s.heap.objs.size (He.fAd K ("Barn", some "held")) cdv) (cxOf (L2.CX P w) P w K mg base ["self", "kind", "one", "year", "bushels"] "Barn.held" (defScope s_Barn_held) (He.fAd K ("Barn", some "held")) cdv A outer s H E).xe := PassesOwn.leaving
  exact (dss_one (ds_ret (de_gsum (k := 0) (own := [("one", 2), ("year", 3), ("bushels", 4)]) rfl nd (hr.mono (by decide)) (T.f_sum) (T.tb ("Barn", some "held") (by simp [tf])) hcd (tabs_Barn_held T) (DI.s (di_tup (de_fld (c := 0) (i := 1) T.cls0 (db_v 0)))) (by first | exact (show genC ["self", "kind", "one", "year", "bushels"] (defScope s_Barn_held) _ [("one", 2), ("year", 3), ("bushels", 4)] = true by decide +kernel) | decide +kernel | rfl) (fun s2 H2 C2 cd2 fp2 => (dg_tup rfl (dgs_cons (dg_name 2 nd) (dgs_cons (dg_name 3 nd) (dgs_cons (dg_name 4 nd) dgs_nil))))) (fun s2 H2 C2 cd2 fp2 => genT (k := 0) (hr.mono (by decide)) fun hr hu tk hW => (dts_one (dt_cmp (od_eq hu) (db_v 2) (db_v 1) (nomark _)))) (fun s2 H2 C2 cd2 fp2 => genE (k := 0) (hr.mono (by decide)) fun hr hu tk hW => (de_v 4)))))
theorem ok_Barn_draw (T : Txt w K mg base h) : FnOk P w K mg base (L2.CX P w) 3 (He.fAd K ("Barn", some "draw")) (fd_Barn_draw T) ["self", "kind", "bushels"] (SpD K (MM K φ) 3 m_Barn_draw) := by
  refine fn_okT (k := 2) (N := ["self", "kind", "bushels", "rows", "drawn", "one", "year", "many", "part"]) (body := B_Barn_draw) (F_Barn_draw T) sc_Barn_draw fun cdv hcd A outer s H E hr => ?_
  have nd := sc_Barn_draw.nd
  have hu := hr.units
  have tk : Takes (cxOf (L2.CX P w) P w K mg base ["self", "kind", "bushels", "rows", "drawn", "one", "year", "many", "part"] "Barn.draw" (defScope s_Barn_draw) (He.fAd K ("Barn", some "draw")) cdv A outer s H E) (WofE E) := takes_of rfl rfl rfl rfl
  have hW : Flat (WofE E) := fun _ _ _ _ _ z => z
  have hP : PassesOwn (model P w) (A.deeper (envOfC "Barn.draw" (defScope s_Barn_draw) s.heap.objs.size (He.fAd K ("Barn", some "draw")) cdv)) (envOfC "Barn.draw" (defScope s_Barn_draw) s.heap.objs.size (He.fAd K ("Barn", some "draw")) cdv) (cxOf (L2.CX P w) P w K mg base ["self", "kind", "bushels", "rows", "drawn", "one", "year", "many", "part"] "Barn.draw" (defScope s_Barn_draw) (He.fAd K ("Barn", some "draw")) cdv A outer s H E).xe := PassesOwn.leaving
  exact (dss_cons (ds_if (dt_cmp od_lt (db_v 2) (DE.b de_int) (nomark _)) (dss_one (ds_raise (T.exc_BadSize) tk rfl (da_cons de_str da_nil))) dss_nil)
  (dss_cons (ds_if (dt_cmp od_gt (db_v 2) (DE.b (de_methT (ok_Barn_held T) (b_Barn_held T) T.cls0 (me_Barn_held T) (hr.mono (by decide)) tk (de_v 0) (da_cons (de_v 1) da_nil))) (nomark _)) (dss_one (ds_raise (T.exc_Short) tk rfl (da_cons (de_v 1) da_nil))) dss_nil)
  dss_bad))
theorem ok_Desk_init (T : Txt w K mg base h) : FnOk P w K mg base (L2.CX P w) 1 (He.fAd K ("Desk", some "__init__")) (fd_Desk_init T) ["self"] (SpI K (MM K φ) 3 1 m_Desk_init) := by
  refine in_okT (k := 0) (N := ["self"]) (body := B_Desk_init) (F_Desk_init T) sc_Desk_init fun cdv hcd A outer s H E hr => ?_
  have nd := sc_Desk_init.nd
  have hu := hr.units
  have tk : Takes (cxOf (L2.CX P w) P w K mg base ["self"] "Desk.__init__" (defScope s_Desk_init) (He.fAd K ("Desk", some "__init__")) cdv A outer s H E) (WofE E) := takes_of rfl rfl rfl rfl
  have hW : Flat (WofE E) := fun _ _ _ _ _ z => z
  have hP : PassesOwn (model P w) (A.deeper (envOfC "Desk.__init__" (defScope s_Desk_init) s.heap.objs.size (He.fAd K ("Desk", some "__init__")) cdv)) (envOfC "Desk.__init__" (defScope s_Desk_init) s.heap.objs.size (He.fAd K ("Desk", some "__init__")) cdv) (cxOf (L2.CX P w) P w K mg base ["self"] "Desk.__init__" (defScope s_Desk_init) (He.fAd K ("Desk", some "__init__")) cdv A outer s H E).xe := PassesOwn.leaving
  exact (dss_cons (ds_fld (c := 3) (j := 0) T.cls3 (dp_v 0) de_str)
  (dss_cons (ds_fld (c := 3) (j := 1) T.cls3 (dp_v 0) (de_lst da_nil))
  (dss_one (ds_fld (c := 3) (j := 2) T.cls3 (dp_v 0) (de_lst da_nil)))))
theorem ok_Desk_undo (T : Txt w K mg base h) : FnOk P w K mg base (L2.CX P w) 1 (He.fAd K ("Desk", some "undo")) (fd_Desk_undo T) ["self"] (SpD K (MM K φ) 1 m_Desk_undo) := by
  refine fn_okT (k := 0) (N := ["self", "deed"]) (body := B_Desk_undo) (F_Desk_undo T) sc_Desk_undo fun cdv hcd A outer s H E hr => ?_
  have nd := sc_Desk_undo.nd
  have hu := hr.units
  have tk : Takes (cxOf (L2.CX P w) P w K mg base ["self", "deed"] "Desk.undo" (defScope s_Desk_undo) (He.fAd K ("Desk", some "undo")) cdv A outer s H E) (WofE E) := takes_of rfl rfl rfl rfl
  have hW : Flat (WofE E) := fun _ _ _ _ _ z => z
  have hP : PassesOwn (model P w) (A.deeper (envOfC "Desk.undo" (defScope s_Desk_undo) s.heap.objs.size (He.fAd K ("Desk", some "undo")) cdv)) (envOfC "Desk.undo" (defScope s_Desk_undo) s.heap.objs.size (He.fAd K ("Desk", some "undo")) cdv) (cxOf (L2.CX P w) P w K mg base ["self", "deed"] "Desk.undo" (defScope s_Desk_undo) (He.fAd K ("Desk", some "undo")) cdv A outer s H E).xe := PassesOwn.leaving
  exact (dss_cons (ds_if (dt_cmp (od_eqN hu) (DE.b (de_fld (c := 3) (i := 1) T.cls3 (db_v 0))) (DE.b (de_lst da_nil)) (nomark _)) (dss_one (ds_raise (T.exc_BadDeed) tk rfl (da_cons de_str da_nil))) dss_nil)
  dss_bad)
theorem ok_Hoist_init (T : Txt w K mg base h) : FnOk P w K mg base (L2.CX P w) 1 (He.fAd K ("Hoist", some "__init__")) (fd_Hoist_init T) ["self", "floors", "bears", "loaded", "bare", "at"] (SpI K (MM K φ) 5 6 m_Hoist_init) := by
  refine in_okT (k := 0) (N := ["self", "floors", "bears", "loaded", "bare", "at"]) (body := B_Hoist_init) (F_Hoist_init T) sc_Hoist_init fun cdv hcd A outer s H E hr => ?_
  have nd := sc_Hoist_init.nd
  have hu := hr.units
  have tk : Takes (cxOf (L2.CX P w) P w K mg base ["self", "floors", "bears", "loaded", "bare", "at"] "Hoist.__init__" (defScope s_Hoist_init) (He.fAd K ("Hoist", some "__init__")) cdv A outer s H E) (WofE E) := takes_of rfl rfl rfl rfl
  have hW : Flat (WofE E) := fun _ _ _ _ _ z => z
  have hP : PassesOwn (model P w) (A.deeper (envOfC "Hoist.__init__" (defScope s_Hoist_init) s.heap.objs.size (He.fAd K ("Hoist", some "__init__")) cdv)) (envOfC "Hoist.__init__" (defScope s_Hoist_init) s.heap.objs.size (He.fAd K ("Hoist", some "__init__")) cdv) (cxOf (L2.CX P w) P w K mg base ["self", "floors", "bears", "loaded", "bare", "at"] "Hoist.__init__" (defScope s_Hoist_init) (He.fAd K ("Hoist", some "__init__")) cdv A outer s H E).xe := PassesOwn.leaving
  exact (dss_cons (ds_if (DW.t (dw_or (dt_cmp od_lt (db_v 1) (DE.b de_int) (nomark _)) (dw_or (dt_cmp od_lt (db_v 2) (DE.b de_int) (nomark _)) (dw_or (dt_cmp od_lt (DE.b (de_blt (cd_min2 rfl) (T.f_min) (by decide +kernel) (dab_cons (db_v 3) (dab_cons (db_v 4) dab_nil)))) (DE.b de_int) (nomark _)) (dw_or1 (dt_not (dt_ch od_le od_lt (DE.b de_int) (db_v 5) (db_v 1)))))))) (dss_one (ds_raise (T.exc_BadPlan) tk rfl (da_cons de_str da_nil))) dss_nil)
  (dss_cons (ds_fld (c := 5) (j := 0) T.cls5 (dp_v 0) (de_v 1))
  (dss_cons (ds_fld (c := 5) (j := 1) T.cls5 (dp_v 0) (de_v 2))
  (dss_cons (ds_fld (c := 5) (j := 2) T.cls5 (dp_v 0) (de_v 3))
  (dss_cons (ds_fld (c := 5) (j := 3) T.cls5 (dp_v 0) (de_v 4))
  (dss_one (ds_fld (c := 5) (j := 4) T.cls5 (dp_v 0) (de_v 5))))))))
theorem ok_Hoist_go (T : Txt w K mg base h) : FnOk P w K mg base (L2.CX P w) 1 (He.fAd K ("Hoist", some "go")) (fd_Hoist_go T) ["self", "one", "other", "weight"] (SpD K (MM K φ) 4 m_Hoist_go) := by
  refine fn_okT (k := 0) (N := ["self", "one", "other", "weight", "minutes"]) (body := B_Hoist_go) (F_Hoist_go T) sc_Hoist_go fun cdv hcd A outer s H E hr => ?_
  have nd := sc_Hoist_go.nd
  have hu := hr.units
  have tk : Takes (cxOf (L2.CX P w) P w K mg base ["self", "one", "other", "weight", "minutes"] "Hoist.go" (defScope s_Hoist_go) (He.fAd K ("Hoist", some "go")) cdv A outer s H E) (WofE E) := takes_of rfl rfl rfl rfl
  have hW : Flat (WofE E) := fun _ _ _ _ _ z => z
  have hP : PassesOwn (model P w) (A.deeper (envOfC "Hoist.go" (defScope s_Hoist_go) s.heap.objs.size (He.fAd K ("Hoist", some "go")) cdv)) (envOfC "Hoist.go" (defScope s_Hoist_go) s.heap.objs.size (He.fAd K ("Hoist", some "go")) cdv) (cxOf (L2.CX P w) P w K mg base ["self", "one", "other", "weight", "minutes"] "Hoist.go" (defScope s_Hoist_go) (He.fAd K ("Hoist", some "go")) cdv A outer s H E).xe := PassesOwn.leaving
  exact (dss_cons (ds_if (DW.t (dw_or (dt_not (dt_ch od_le od_lt (DE.b de_int) (db_v 1) (DE.b (de_fld (c := 5) (i := 0) T.cls5 (db_v 0))))) (dw_or1 (dt_not (dt_ch od_le od_lt (DE.b de_int) (db_v 2) (DE.b (de_fld (c := 5) (i := 0) T.cls5 (db_v 0)))))))) (dss_one (ds_raise (T.exc_NoSuch) tk rfl (da_cons de_str da_nil))) dss_nil)
  (dss_cons (ds_if (dt_cmp od_lt (db_v 3) (DE.b de_int) (nomark _)) (dss_one (ds_raise (T.exc_BadSize) tk rfl (da_cons de_str da_nil))) dss_nil)
  (dss_cons (ds_if (dt_cmp od_gt (db_v 3) (DE.b (de_fld (c := 5) (i := 1) T.cls5 (db_v 0))) (nomark _)) (dss_one (ds_raise (T.exc_NoRoom) tk rfl (da_cons de_str da_nil))) dss_nil)
  dss_bad)))
theorem ok_Row_init (T : Txt w K mg base h) : FnOk P w K mg base (L2.CX P w) 1 (He.fAd K ("Row", some "__init__")) (fd_Row_init T) ["self"] (SpI K (MM K φ) 6 1 m_Row_init) := by
  refine in_okT (k := 0) (N := ["self"]) (body := B_Row_init) (F_Row_init T) sc_Row_init fun cdv hcd A outer s H E hr => ?_
  have nd := sc_Row_init.nd
  have hu := hr.units
  have tk : Takes (cxOf (L2.CX P w) P w K mg base ["self"] "Row.__init__" (defScope s_Row_init) (He.fAd K ("Row", some "__init__")) cdv A outer s H E) (WofE E) := takes_of rfl rfl rfl rfl
  have hW : Flat (WofE E) := fun _ _ _ _ _ z => z
  have hP : PassesOwn (model P w) (A.deeper (envOfC "Row.__init__" (defScope s_Row_init) s.heap.objs.size (He.fAd K ("Row", some "__init__")) cdv)) (envOfC "Row.__init__" (defScope s_Row_init) s.heap.objs.size (He.fAd K ("Row", some "__init__")) cdv) (cxOf (L2.CX P w) P w K mg base ["self"] "Row.__init__" (defScope s_Row_init) (He.fAd K ("Row", some "__init__")) cdv A outer s H E).xe := PassesOwn.leaving
  exact (dss_one (ds_fld (c := 6) (j := 0) T.cls6 (dp_v 0) (de_tup da_nil)))
theorem ok_Row_next_lot (T : Txt w K mg base h) : FnOk P w K mg base (L2.CX P w) 1 (He.fAd K ("Row", some "next_lot")) (fd_Row_next_lot T) ["self", "kind"] (SpD K (MM K φ) 2 m_Row_next_lot) := by
  refine fn_okT (k := 0) (N := ["self", "kind", "rows", "lot"]) (body := B_Row_next_lot) (F_Row_next_lot T) sc_Row_next_lot fun cdv hcd A outer s H E hr => ?_
  have nd := sc_Row_next_lot.nd
  have hu := hr.units
  have tk : Takes (cxOf (L2.CX P w) P w K mg base ["self", "kind", "rows", "lot"] "Row.next_lot" (defScope s_Row_next_lot) (He.fAd K ("Row", some "next_lot")) cdv A outer s H E) (WofE E) := takes_of rfl rfl rfl rfl
  have hW : Flat (WofE E) := fun _ _ _ _ _ z => z
  have hP : PassesOwn (model P w) (A.deeper (envOfC "Row.next_lot" (defScope s_Row_next_lot) s.heap.objs.size (He.fAd K ("Row", some "next_lot")) cdv)) (envOfC "Row.next_lot" (defScope s_Row_next_lot) s.heap.objs.size (He.fAd K ("Row", some "next_lot")) cdv) (cxOf (L2.CX P w) P w K mg base ["self", "kind", "rows", "lot"] "Row.next_lot" (defScope s_Row_next_lot) (He.fAd K ("Row", some "next_lot")) cdv A outer s H E).xe := PassesOwn.leaving
  exact (dss_cons (ds_setLc (own := [("lot", 3)]) 2 rfl nd (DI.s (di_tup (de_fld (c := 6) (i := 0) T.cls6 (db_v 0)))) (by first | exact (show blkC ["self", "kind", "rows", "lot"] (defScope s_Row_next_lot) _ [("lot", 3)] = true by decide +kernel) | rfl) (fun s2 H2 C2 cl2 fp2 => (dg_name 3 nd)) (fun s2 H2 C2 cl2 fp2 => blkT hr fun hu tk hW => (dts_one (dt_cmp (od_inX hu) (db_v 1) (DE.b (de_tup (da_cons de_str (da_cons (de_fld (c := 1) (i := 3) T.cls1 (db_v 3)) da_nil)))) (by rfl)))) (fun s2 H2 C2 cl2 fp2 => blkE hr fun hu tk hW => (de_v 3)))
  (dss_cons (ds_if (dt_cmp (od_eqN hu) (db_v 2) (DE.b (de_lst da_nil)) (nomark _)) (dss_one (ds_raise (T.exc_NoWay) tk rfl (da_cons de_str da_nil))) dss_nil)
  dss_bad))
theorem ok_Train_init (T : Txt w K mg base h) : FnOk P w K mg base (L2.CX P w) 2 (He.fAd K ("Train", some "__init__")) (fd_Train_init T) ["self", "pairs"] (SpI K (MM K φ) 4 2 m_Train_init) := by
  refine in_okT (k := 1) (N := ["self", "pairs", "pair"]) (body := B_Train_init) (F_Train_init T) sc_Train_init fun cdv hcd A outer s H E hr => ?_
  have nd := sc_Train_init.nd
  have hu := hr.units
  have tk : Takes (cxOf (L2.CX P w) P w K mg base ["self", "pairs", "pair"] "Train.__init__" (defScope s_Train_init) (He.fAd K ("Train", some "__init__")) cdv A outer s H E) (WofE E) := takes_of rfl rfl rfl rfl
  have hW : Flat (WofE E) := fun _ _ _ _ _ z => z
  have hP : PassesOwn (model P w) (A.deeper (envOfC "Train.__init__" (defScope s_Train_init) s.heap.objs.size (He.fAd K ("Train", some "__init__")) cdv)) (envOfC "Train.__init__" (defScope s_Train_init) s.heap.objs.size (He.fAd K ("Train", some "__init__")) cdv) (cxOf (L2.CX P w) P w K mg base ["self", "pairs", "pair"] "Train.__init__" (defScope s_Train_init) (He.fAd K ("Train", some "__init__")) cdv A outer s H E).xe := PassesOwn.leaving
  exact (dss_cons (ds_if (dt_val (de_gany (k := 0) (own := [("pair", 2)]) rfl nd (hr.mono (by decide)) (T.f_any) (T.tb ("Train", some "__init__") (by simp [tf])) hcd (tabs_Train_init T) (DI.s (di_seq (de_v 1))) (by first | exact (show genC ["self", "pairs", "pair"] (defScope s_Train_init) _ [("pair", 2)] = true by decide +kernel) | decide +kernel | rfl) (fun s2 H2 C2 cd2 fp2 => (dg_name 2 nd)) (fun s2 H2 C2 cd2 fp2 => genT (k := 0) (hr.mono (by decide)) fun hr hu tk hW => dts_nil) (fun s2 H2 C2 cd2 fp2 => genE (k := 0) (hr.mono (by decide)) fun hr hu tk hW => (de_cmp od_lt (DE.b (de_blt (cd_minT rfl hu) T.f_min (by decide +kernel) (dab_cons (db_v 2) dab_nil))) (DE.b de_int) (nomark _))))) (dss_one (ds_raise (T.exc_BadPlan) tk rfl (da_cons de_str da_nil))) dss_nil)
  dss_bad)
theorem ok_law_roll (T : Txt w K mg base h) : FnOk P w K mg base (L2.CX P w) 1 (He.fAd K ("_law_roll", none)) (fd_law_roll T) ["dice", "many"] (SpD K (MM K φ) 2 m_law_roll) := by
  refine fn_okT (k := 0) (N := ["dice", "many", "found"]) (body := B_law_roll) (F_law_roll T) sc_law_roll fun cdv hcd A outer s H E hr => ?_
  have nd := sc_law_roll.nd
  have hu := hr.units
  have tk : Takes (cxOf (L2.CX P w) P w K mg base ["dice", "many", "found"] "_law_roll" (defScope s_law_roll) (He.fAd K ("_law_roll", none)) cdv A outer s H E) (WofE E) := takes_of rfl rfl rfl rfl
  have hW : Flat (WofE E) := fun _ _ _ _ _ z => z
  have hP : PassesOwn (model P w) (A.deeper (envOfC "_law_roll" (defScope s_law_roll) s.heap.objs.size (He.fAd K ("_law_roll", none)) cdv)) (envOfC "_law_roll" (defScope s_law_roll) s.heap.objs.size (He.fAd K ("_law_roll", none)) cdv) (cxOf (L2.CX P w) P w K mg base ["dice", "many", "found"] "_law_roll" (defScope s_law_roll) (He.fAd K ("_law_roll", none)) cdv A outer s H E).xe := PassesOwn.leaving
  exact (dss_cons (ds_if (DW.t (dw_or (dt_cmp (od_eq hu) (DE.b (de_ix (db_v 0) (DE.b de_int))) (DE.b de_int) (nomark _)) (dw_or1 (DW.t (dw_and (dt_cmp (od_eq hu) (DE.b (de_ix (db_v 0) (DE.b de_int))) (DE.b de_int) (nomark _)) (dw_and1 (dt_cmp od_gt (DE.b (de_ix (db_v 0) (DE.b de_int))) (DE.b de_int) (nomark _)))))))) (dss_cons (ds_set 2 nd (de_bin od_mod (DE.b (de_bty (cd_int) (T.f_int) (by decide +kernel) (dab_cons (DE.b (de_ix (db_v 0) (DE.b de_int))) dab_nil))) (db_v 1)))
  (dss_cons (ds_st (de_bin od_div (DE.b (de_ix (db_v 0) (DE.b de_int))) (db_v 1)) (dp_v 0) de_int si_list)
  (dss_one (ds_ret (de_v 2))))) dss_nil)
  (dss_cons (ds_st de_int (dp_v 0) de_int si_list)
  (dss_cons (ds_st (de_bin od_mod (DE.b (de_bty (cd_int) (T.f_int) (by decide +kernel) (dab_cons (DE.b (de_bin od_add (DE.b (de_bin od_add (DE.b (de_bin od_mul (DE.b (de_ix (db_v 0) (DE.b de_int))) (DE.b de_int))) (DE.b (de_bin od_mul (DE.b (de_ix (db_v 0) (DE.b de_int))) (DE.b de_int))))) (DE.b de_int))) dab_nil))) (DE.b de_int)) (dp_v 0) de_int si_list)
  (dss_cons (ds_st (de_bin od_add (DE.b (de_ix (db_v 0) (DE.b de_int))) (DE.b de_int)) (dp_v 0) de_int si_list)
  (dss_one (ds_ret (de_bin od_mod (DE.b (de_bty (cd_int) (T.f_int) (by decide +kernel) (dab_cons (DE.b (de_bin od_add (DE.b (de_bin od_div (DE.b (de_ix (db_v 0) (DE.b de_int))) (DE.b de_int))) (DE.b (de_ix (db_v 0) (DE.b de_int))))) dab_nil))) (db_v 1))))))))
theorem ok_law_dice (T : Txt w K mg base h) : FnOk P w K mg base (L2.CX P w) 1 (He.fAd K ("_law_dice", none)) (fd_law_dice T) ["cell"] (SpD K (MM K φ) 1 m_law_dice) := by
  refine fn_okT (k := 0) (N := ["cell"]) (body := B_law_dice) (F_law_dice T) sc_law_dice fun cdv hcd A outer s H E hr => ?_
  have nd := sc_law_dice.nd
  have hu := hr.units
  have tk : Takes (cxOf (L2.CX P w) P w K mg base ["cell"] "_law_dice" (defScope s_law_dice) (He.fAd K ("_law_dice", none)) cdv A outer s H E) (WofE E) := takes_of rfl rfl rfl rfl
  have hW : Flat (WofE E) := fun _ _ _ _ _ z => z
  have hP : PassesOwn (model P w) (A.deeper (envOfC "_law_dice" (defScope s_law_dice) s.heap.objs.size (He.fAd K ("_law_dice", none)) cdv)) (envOfC "_law_dice" (defScope s_law_dice) s.heap.objs.size (He.fAd K ("_law_dice", none)) cdv) (cxOf (L2.CX P w) P w K mg base ["cell"] "_law_dice" (defScope s_law_dice) (He.fAd K ("_law_dice", none)) cdv A outer s H E).xe := PassesOwn.leaving
  exact (dss_cons (ds_if (dt_ch od_lt od_lt (DE.b (de_bin od_sub (DE.b de_int) (DE.b de_int))) (db_v 0) (DE.b de_int)) (dss_one (ds_ret (DF.han (df_lst (da_cons (de_blt (cd_abs) (T.f_abs) (by decide +kernel) (dab_cons (db_v 0) dab_nil)) (da_cons de_int (da_cons de_int da_nil))))))) dss_nil)
  (dss_one (ds_ret (DF.han (df_lst (da_cons (de_v 0) (da_cons (de_bin od_add (DE.b de_int) (DE.b (de_bin od_mod (DE.b (de_bty (cd_int) (T.f_int) (by decide +kernel) (dab_cons (db_v 0) dab_nil))) (DE.b de_int)))) (da_cons (de_bty (cd_int) (T.f_int) (by decide +kernel) (dab_cons (DE.b (de_cmp od_ge (db_v 0) (DE.b (de_bin od_pow (DE.b de_int) (DE.b de_int))) (nomark _))) dab_nil)) da_nil))))))))
theorem ok_law_rounds (T : Txt w K mg base h) : FnOk P w K mg base (L2.CX P w) 2 (He.fAd K ("_law_rounds", none)) (fd_law_rounds T) ["script", "most"] (SpD K (MM K φ) 2 m_law_rounds) := by
  refine fn_okT (k := 1) (N := ["script", "most", "cells", "cell"]) (body := B_law_rounds) (F_law_rounds T) sc_law_rounds fun cdv hcd A outer s H E hr => ?_
  have nd := sc_law_rounds.nd
  have hu := hr.units
  have tk : Takes (cxOf (L2.CX P w) P w K mg base ["script", "most", "cells", "cell"] "_law_rounds" (defScope s_law_rounds) (He.fAd K ("_law_rounds", none)) cdv A outer s H E) (WofE E) := takes_of rfl rfl rfl rfl
  have hW : Flat (WofE E) := fun _ _ _ _ _ z => z
  have hP : PassesOwn (model P w) (A.deeper (envOfC "_law_rounds" (defScope s_law_rounds) s.heap.objs.size (He.fAd K ("_law_rounds", none)) cdv)) (envOfC "_law_rounds" (defScope s_law_rounds) s.heap.objs.size (He.fAd K ("_law_rounds", none)) cdv) (cxOf (L2.CX P w) P w K mg base ["script", "most", "cells", "cell"] "_law_rounds" (defScope s_law_rounds) (He.fAd K ("_law_rounds", none)) cdv A outer s H E).xe := PassesOwn.leaving
  exact (dss_cons (ds_set 2 nd (de_slice (db_v 0) do_none (do_some (de_v 1))))
  (dss_cons (ds_if (dt_cmp (od_eq hu) (db_v 2) (DE.b (de_lst da_nil)) (nomark _)) (dss_one (ds_set 2 nd (de_lst (da_cons de_int da_nil)))) dss_nil)
  (dss_one (ds_ret (DF.de (df_lc (own := [("cell", 3)]) rfl nd (DI.s (di_list (de_v 2))) (by first | exact (show blkC ["script", "most", "cells", "cell"] (defScope s_law_rounds) _ [("cell", 3)] = true by decide +kernel) | rfl) (fun s2 H2 C2 cl2 fp2 => (dg_name 3 nd)) (fun s2 H2 C2 cl2 fp2 => blkT hr fun hu tk hW => dts_nil) (fun s2 H2 C2 cl2 fp2 => blkE hr fun hu tk hW => (de_call (ok_law_dice T) (b_law_dice T) (k_law_dice T) (g_law_dice T) (hr.mono (by decide)) tk (da_cons (de_v 3) da_nil)))))))))
theorem ok_notched (T : Txt w K mg base h) : FnOk P w K mg base (L2.CX P w) 1 (He.fAd K ("notched", none)) (fd_notched T) ["number"] (SpD K (MM K φ) 1 m_notched) := by
  refine fn_okT (k := 0) (N := ["number", "found", "sign", "worth"]) (body := B_notched) (F_notched T) sc_notched fun cdv hcd A outer s H E hr => ?_
  have nd := sc_notched.nd
  have hu := hr.units
  have tk : Takes (cxOf (L2.CX P w) P w K mg base ["number", "found", "sign", "worth"] "notched" (defScope s_notched) (He.fAd K ("notched", none)) cdv A outer s H E) (WofE E) := takes_of rfl rfl rfl rfl
  have hW : Flat (WofE E) := fun _ _ _ _ _ z => z
  have hP : PassesOwn (model P w) (A.deeper (envOfC "notched" (defScope s_notched) s.heap.objs.size (He.fAd K ("notched", none)) cdv)) (envOfC "notched" (defScope s_notched) s.heap.objs.size (He.fAd K ("notched", none)) cdv) (cxOf (L2.CX P w) P w K mg base ["number", "found", "sign", "worth"] "notched" (defScope s_notched) (He.fAd K ("notched", none)) cdv A outer s H E).xe := PassesOwn.leaving
  exact (dss_cons (ds_if (dt_not (dt_ch od_le od_le (DE.b de_int) (db_v 0) (DE.b de_int))) (dss_one (ds_raise (T.exc_BadSize) tk rfl (da_cons de_str da_nil))) dss_nil)
  dss_bad)
theorem ok_read_row (T : Txt w K mg base h) : FnOk P w K mg base (L2.CX P w) 3 (He.fAd K ("read_row", none)) (fd_read_row T) ["text"] (SpD K (MM K φ) 1 m_read_row) := by
  refine fn_okT (k := 2) (N := ["text", "words", "word", "sign", "found"]) (body := B_read_row) (F_read_row T) sc_read_row fun cdv hcd A outer s H E hr => ?_
  have nd := sc_read_row.nd
  have hu := hr.units
  have tk : Takes (cxOf (L2.CX P w) P w K mg base ["text", "words", "word", "sign", "found"] "read_row" (defScope s_read_row) (He.fAd K ("read_row", none)) cdv A outer s H E) (WofE E) := takes_of rfl rfl rfl rfl
  have hW : Flat (WofE E) := fun _ _ _ _ _ z => z
  have hP : PassesOwn (model P w) (A.deeper (envOfC "read_row" (defScope s_read_row) s.heap.objs.size (He.fAd K ("read_row", none)) cdv)) (envOfC "read_row" (defScope s_read_row) s.heap.objs.size (He.fAd K ("read_row", none)) cdv) (cxOf (L2.CX P w) P w K mg base ["text", "words", "word", "sign", "found"] "read_row" (defScope s_read_row) (He.fAd K ("read_row", none)) cdv A outer s H E).xe := PassesOwn.leaving
  exact (dss_cons (ds_set 1 nd (de_mth PySem.F.plainAttrs_str PySem.F.slot_str_split PySem.F.type_str_split md_split (db_v 0) (dab_cons (DE.b de_str) dab_nil)))
  (dss_cons (ds_if (DW.t (dw_or (dt_cmp (od_ne hu) (DE.b (de_blt (cd_len) (T.f_len) (by decide +kernel) (dab_cons (db_v 1) dab_nil))) (DE.b de_int) (nomark _)) (dw_or1 (dt_val (de_gany (k := 0) (own := [("word", 2)]) rfl nd (hr.mono (by decide)) (T.f_any) (T.tb ("read_row", none) (by simp [tf])) hcd (tabs_read_row T) (DI.s (di_tup (de_tup (da_cons (de_ix (db_v 1) (DE.b de_int)) (da_cons (de_ix (db_v 1) (DE.b de_int)) da_nil))))) (by first | exact (show genC ["text", "words", "word", "sign", "found"] (defScope s_read_row) _ [("word", 2)] = true by decide +kernel) | decide +kernel | rfl) (fun s2 H2 C2 cd2 fp2 => (dg_name 2 nd)) (fun s2 H2 C2 cd2 fp2 => genT (k := 1) (hr.mono (by decide)) fun hr hu tk hW => dts_nil) (fun s2 H2 C2 cd2 fp2 => genE (k := 1) (hr.mono (by decide)) fun hr hu tk hW => (de_not (de_ch od_le od_le (DE.b de_int) (DE.b (de_blt (cd_len) (T.f_len) (by decide +kernel) (dab_cons (db_v 2) dab_nil))) (DE.b de_int))))))))) (dss_one (ds_raiseR (T.excR_BadText) tk rfl (hr.mono (by decide)) (da_cons de_int da_nil))) dss_nil)
  dss_bad))
theorem ok_side_on (T : Txt w K mg base h) : FnOk P w K mg base (L2.CX P w) 1 (He.fAd K ("side_on", none)) (fd_side_on T) ["side", "steps"] (SpD K (MM K φ) 2 m_side_on) := by
  refine fn_okT (k := 0) (N := ["side", "steps"]) (body := B_side_on) (F_side_on T) sc_side_on fun cdv hcd A outer s H E hr => ?_
  have nd := sc_side_on.nd
  have hu := hr.units
  have tk : Takes (cxOf (L2.CX P w) P w K mg base ["side", "steps"] "side_on" (defScope s_side_on) (He.fAd K ("side_on", none)) cdv A outer s H E) (WofE E) := takes_of rfl rfl rfl rfl
  have hW : Flat (WofE E) := fun _ _ _ _ _ z => z
  have hP : PassesOwn (model P w) (A.deeper (envOfC "side_on" (defScope s_side_on) s.heap.objs.size (He.fAd K ("side_on", none)) cdv)) (envOfC "side_on" (defScope s_side_on) s.heap.objs.size (He.fAd K ("side_on", none)) cdv) (cxOf (L2.CX P w) P w K mg base ["side", "steps"] "side_on" (defScope s_side_on) (He.fAd K ("side_on", none)) cdv A outer s H E).xe := PassesOwn.leaving
  exact (dss_cons (ds_if (dt_ninC (l := S_SIDES) (db_v 0) (T.gc_SIDES) (T.con_SIDES)) (dss_one (ds_raise (T.exc_NoSuch) tk rfl (da_cons (de_v 0) da_nil))) dss_nil)
  dss_bad)
theorem ok_law (T : Txt w K mg base h) : FnOk P w K mg base (L2.CX P w) 6 (He.fAd K ("law", none)) (fd_law T) ["script"] (SpD K (MM K φ) 1 m_law) := by
  refine fn_okT (k := 5) (N := ["script", "dice", "whats", "k", "many", "desk", "j"]) (body := B_law) (F_law T) sc_law fun cdv hcd A outer s H E hr => ?_
  have nd := sc_law.nd
  have hu := hr.units
  have tk : Takes (cxOf (L2.CX P w) P w K mg base ["script", "dice", "whats", "k", "many", "desk", "j"] "law" (defScope s_law) (He.fAd K ("law", none)) cdv A outer s H E) (WofE E) := takes_of rfl rfl rfl rfl
  have hW : Flat (WofE E) := fun _ _ _ _ _ z => z
  have hP : PassesOwn (model P w) (A.deeper (envOfC "law" (defScope s_law) s.heap.objs.size (He.fAd K ("law", none)) cdv)) (envOfC "law" (defScope s_law) s.heap.objs.size (He.fAd K ("law", none)) cdv) (cxOf (L2.CX P w) P w K mg base ["script", "dice", "whats", "k", "many", "desk", "j"] "law" (defScope s_law) (He.fAd K ("law", none)) cdv A outer s H E).xe := PassesOwn.leaving
  exact (dss_cons (ds_wip [false, false, false, false, false, false] (ds_forW [false, false, false, false, false, false] hP rfl (di_list (de_call (ok_law_rounds T) (b_law_rounds T) (k_law_rounds T) (g_law_rounds T) (hr.mono (by decide)) tk (da_cons (de_v 0) (da_cons de_int da_nil)))) (dg_name 1 nd) (dss_wcK (MK := MM K) (fun _ _ => rfl) (Clo.of (envOfC "law" (defScope s_law) s.heap.objs.size (He.fAd K ("law", none)) cdv) clos) (dss_wip [false, false, false, false, false, false] (dss_cons (ds_asg (de_tup (da_cons (de_bin od_add (DE.b de_int) (DE.b (de_call (ok_law_roll T) (b_law_roll T) (k_law_roll T) (g_law_roll T) (hr.mono (by decide)) tk (da_cons (de_v 1) (da_cons de_int da_nil))))) (da_cons (DF.deN (df_make0 (ok_Desk_init T) (b_Desk_init T) (mk_Desk T) (g_Desk T) (hr.mono (by decide)) tk hW)) da_nil))) (dg_tup rfl (dgs_cons (dg_name 4 nd) (dgs_cons (dg_name 5 nd) dgs_nil))))
  (dss_cons (ds_set 2 nd (de_lst (da_cons (de_cloK (MK := MM K) (fun _ _ => rfl) 0 rfl (T.tb ("law", none) (by simp [tf])) hcd (tabs_law T) (L := LamX.lamS_by (show LamX.lamSB (defScope s_law) _ = true by decide +kernel))) (da_cons (de_cloK (MK := MM K) (fun _ _ => rfl) 1 rfl (T.tb ("law", none) (by simp [tf])) hcd (tabs_law T) (L := LamX.lamS_by (show LamX.lamSB (defScope s_law) _ = true by decide +kernel))) (da_cons (de_cloK (MK := MM K) (fun _ _ => rfl) 2 rfl (T.tb ("law", none) (by simp [tf])) hcd (tabs_law T) (L := LamX.lamS_by (show LamX.lamSB (defScope s_law) _ = true by decide +kernel))) (da_cons (de_cloK (MK := MM K) (fun _ _ => rfl) 3 rfl (T.tb ("law", none) (by simp [tf])) hcd (tabs_law T) (L := LamX.lamS_by (show LamX.lamSB (defScope s_law) _ = true by decide +kernel))) (da_cons (de_cloK (MK := MM K) (fun _ _ => rfl) 4 rfl (T.tb ("law", none) (by simp [tf])) hcd (tabs_law T) (L := LamX.lamS_by (show LamX.lamSB (defScope s_law) _ = true by decide +kernel))) (da_cons (de_cloK (MK := MM K) (fun _ _ => rfl) 5 rfl (T.tb ("law", none) (by simp [tf])) hcd (tabs_law T) (L := LamX.lamS_by (show LamX.lamSB (defScope s_law) _ = true by decide +kernel))) (da_cons (de_cloK (MK := MM K) (fun _ _ => rfl) 6 rfl (T.tb ("law", none) (by simp [tf])) hcd (tabs_law T) (L := LamX.lamS_by (show LamX.lamSB (defScope s_law) _ = true by decide +kernel))) (da_cons (de_cloK (MK := MM K) (fun _ _ => rfl) 7 rfl (T.tb ("law", none) (by simp [tf])) hcd (tabs_law T) (L := LamX.lamS_by (show LamX.lamSB (defScope s_law) _ = true by decide +kernel))) da_nil))))))))))
  (dss_cons (ds_set 3 nd (de_call (ok_law_roll T) (b_law_roll T) (k_law_roll T) (g_law_roll T) (hr.mono (by decide)) tk (da_cons (de_v 1) (da_cons de_int da_nil))))
  (dss_one (ds_if (dt_cmp (od_ne hu) (DE.b (de_underK (MK := MM K) (fun _ _ => rfl) 1 (k := 3) (cs := csE) (F_law_under T) (b_law_under T) sc_law_under rfl (de_ix (db_v 2) (db_v 3)) (.cons (LamX.lamS_by (show LamX.lamSB (defScope s_law) _ = true by decide +kernel)) (by intros; rfl) (.cons (LamX.lamS_by (show LamX.lamSB (defScope s_law) _ = true by decide +kernel)) (by intros; rfl) (.cons (LamX.lamS_by (show LamX.lamSB (defScope s_law) _ = true by decide +kernel)) (by intros; rfl) (.cons (LamX.lamS_by (show LamX.lamSB (defScope s_law) _ = true by decide +kernel)) (by intros; rfl) (.cons (LamX.lamS_by (show LamX.lamSB (defScope s_law) _ = true by decide +kernel)) (by intros; rfl) (.cons (LamX.lamS_by (show LamX.lamSB (defScope s_law) _ = true by decide +kernel)) (by intros; rfl) (.cons (LamX.lamS_by (show LamX.lamSB (defScope s_law) _ = true by decide +kernel)) (by intros; rfl) (.cons (LamX.lamS_by (show LamX.lamSB (defScope s_law) _ = true by decide +kernel)) (by intros; rfl) .nil)))))))) (.cons (fun A2 outer2 s2 H2 E2 f2 c2 hr => de_lam hr fun hu tk hW => (de_methT0 (ok_Desk_undo T) (b_Desk_undo T) T.cls3 (me_Desk_undo T) (hr.mono (by decide)) tk (de_v 5)))
 (.cons (fun A2 outer2 s2 H2 E2 f2 c2 hr => de_lam hr fun hu tk hW => (DF.deN (df_make (ok_Train_init T) (b_Train_init T) (mk_Train T) (g_Train T) (hr.mono (by decide)) tk hW (da_cons (de_lst (da_cons (de_tup (da_cons de_int (da_cons (de_bin od_add (DE.b de_int) (db_v 4)) da_nil))) da_nil)) da_nil))))
 (.cons (fun A2 outer2 s2 H2 E2 f2 c2 hr => de_lam hr fun hu tk hW => (de_call (ok_notched T) (b_notched T) (k_notched T) (g_notched T) (hr.mono (by decide)) tk (da_cons (de_bin od_add (DE.b de_int) (db_v 4)) da_nil)))
 (.cons (fun A2 outer2 s2 H2 E2 f2 c2 hr => de_lam hr fun hu tk hW => (de_call (ok_read_row T) (b_read_row T) (k_read_row T) (g_read_row T) (hr.mono (by decide)) tk (da_cons (de_bin od_mulS (DE.b de_str) (db_v 4)) da_nil)))
 (.cons (fun A2 outer2 s2 H2 E2 f2 c2 hr => de_lam hr fun hu tk hW => (de_methT (ok_Hoist_go T) (b_Hoist_go T) T.cls5 (me_Hoist_go T) (hr.mono (by decide)) tk (DF.deN (df_make (ok_Hoist_init T) (b_Hoist_init T) (mk_Hoist T) (g_Hoist T) (hr.mono (by decide)) tk hW (da_cons de_int (da_cons (de_v 4) (da_cons de_int (da_cons de_int (da_cons de_int da_nil))))))) (da_cons de_int (da_cons de_int (da_cons (de_bin od_add (db_v 4) (DE.b de_int)) da_nil)))))
 (.cons (fun A2 outer2 s2 H2 E2 f2 c2 hr => de_lam hr fun hu tk hW => (de_call (ok_side_on T) (b_side_on T) (k_side_on T) (g_side_on T) (hr.mono (by decide)) tk (da_cons (de_bin od_mulS (DE.b de_str) (db_v 4)) (da_cons de_int da_nil))))
 (.cons (fun A2 outer2 s2 H2 E2 f2 c2 hr => de_lam hr fun hu tk hW => (de_methT (ok_Row_next_lot T) (b_Row_next_lot T) T.cls6 (me_Row_next_lot T) (hr.mono (by decide)) tk (DF.deN (df_make0 (ok_Row_init T) (b_Row_init T) (mk_Row T) (g_Row T) (hr.mono (by decide)) tk hW)) (da_cons (de_bin od_mulS (DE.b de_str) (db_v 4)) da_nil)))
 (.cons (fun A2 outer2 s2 H2 E2 f2 c2 hr => de_lam hr fun hu tk hW => (de_methT (ok_Barn_draw T) (b_Barn_draw T) T.cls0 (me_Barn_draw T) (hr.mono (by decide)) tk (DF.deN (df_make (ok_Barn_init T) (b_Barn_init T) (mk_Barn T) (g_Barn T) (hr.mono (by decide)) tk hW (da_cons de_int da_nil))) (da_cons de_str (da_cons (de_v 4) da_nil))))
 .nil)))))))) T.xmi (fun cdv3 s3 H3 c dx a3 oe pn3 hc hz => have nd := sc_law_under.nd; (dss_cons (ds_set 2 nd (de_lst (da_cons (de_isOK (MK := MM K) (fun _ _ => rfl) 1 (T.xc c hc) hz (ge_BadDeed T) (T.ki c hc 8 (by decide)) T.f_isinstance) (da_cons (de_isOK (MK := MM K) (fun _ _ => rfl) 1 (T.xc c hc) hz (ge_BadPlan T) (T.ki c hc 2 (by decide)) T.f_isinstance) (da_cons (de_isOK (MK := MM K) (fun _ _ => rfl) 1 (T.xc c hc) hz (ge_BadSize T) (T.ki c hc 1 (by decide)) T.f_isinstance) (da_cons (de_isOK (MK := MM K) (fun _ _ => rfl) 1 (T.xc c hc) hz (ge_BadText T) (T.ki c hc 7 (by decide)) T.f_isinstance) da_nil))))))
  (dss_cons (ds_set 2 nd (de_bin od_add (db_v 2) (DE.b (de_lst (da_cons (de_isOK (MK := MM K) (fun _ _ => rfl) 1 (T.xc c hc) hz (ge_NoRoom T) (T.ki c hc 4 (by decide)) T.f_isinstance) (da_cons (de_isOK (MK := MM K) (fun _ _ => rfl) 1 (T.xc c hc) hz (ge_NoSuch T) (T.ki c hc 3 (by decide)) T.f_isinstance) (da_cons (de_isOK (MK := MM K) (fun _ _ => rfl) 1 (T.xc c hc) hz (ge_NoWay T) (T.ki c hc 5 (by decide)) T.f_isinstance) (da_cons (de_isOK (MK := MM K) (fun _ _ => rfl) 1 (T.xc c hc) hz (ge_Short T) (T.ki c hc 6 (by decide)) T.f_isinstance) da_nil))))))))
  (dss_one (ds_ret (de_bin od_add (db_v 2) (DE.b (de_lst (da_cons (de_isTK (MK := MM K) (fun _ _ => rfl) 1 (T.xc c hc) hz T.f_ValueError rfl (T.kv c hc) T.f_isinstance) da_nil))))))))) (fun cdv3 s3 H3 => have nd := sc_law_under.nd; (dss_one (ds_ret (de_lst da_nil)))) (g_law_under T) (hr.mono (by decide)) (ge_MillFault T))) (DE.b (de_bin od_add (DE.b (DF.de (df_lc (own := [("j", 6)]) rfl nd (DI.s (di_range1 T.f_range (da_cons de_int da_nil))) (by first | exact (show blkC ["script", "dice", "whats", "k", "many", "desk", "j"] (defScope s_law) _ [("j", 6)] = true by decide +kernel) | rfl) (fun s2 H2 C2 cl2 fp2 => (dg_name 6 nd)) (fun s2 H2 C2 cl2 fp2 => blkT hr fun hu tk hW => dts_nil) (fun s2 H2 C2 cl2 fp2 => blkE hr fun hu tk hW => (de_cmp (od_eq hu) (db_v 6) (db_v 3) (nomark _)))))) (DE.b (de_lst (da_cons de_bl da_nil))))) (nomark _)) (dss_one (ds_ret de_bl)) dss_nil)))))))))
  (dss_one (ds_ret de_bl)))
end
end L21
set_option Elab.async false
set_option linter.all false
set_option maxRecDepth 100000
set_option maxHeartbeats 4000000
namespace DL
open PySem PySem.Spec PyProof PyProof.Rows L2
open He (obsT SaysX tabsB cT frT asD emptyTab emptyTab_eq frT_none frT_in ba)
def asY (g : Addr → Option Obj) (n : Nat) : List Addr := asD g n ++ [cStatics]
def obsY (n : Nat) (fa : List He.Fa) (fn : List He.DefD) (ts : List He.Tab) (tf : List He.Defn) (ex : PySem.W.Frag → Bool) (g : Addr → Option Obj) : He.AlX := (obsT fa fn ts (frT g (asY g n)), ex (frT g (asY g n)) && tabsB g tf (frT g (asY g n)))
theorem saysY_of {as : List Addr} {fa : List He.Fa} {fn : List He.DefD} {ts : List He.Tab} {tf : List He.Defn} {ex : PySem.W.Frag → Bool} {w : World} {h : Heap} (e : (obsT fa fn ts (frT h.get? as), ex (frT h.get? as) && tabsB h.get? tf (frT h.get? as)) = He.valX fn ts w) : SaysX fa fn ts tf ex w h (frT h.get? as) := by
  have e1 : obsT fa fn ts (frT h.get? as) = He.valT fn ts w := congrArg (fun z : He.AlX => z.1) e
  have e2 : (ex (frT h.get? as) && tabsB h.get? tf (frT h.get? as)) = true := congrArg (fun z : He.AlX => z.2) e
  obtain ⟨h1, h2⟩ := ba e2
  have key : ∀ p ∈ tf, PySem.W.codeHdIn (frT h.get? as) (cT (frT h.get? as) p).1 (cT (frT h.get? as) p).2 = true ∧ ∃ o, h.get? (cT (frT h.get? as) p).2 = some o ∧ emptyTab o = true := fun p hp => by
    obtain ⟨h3, h4⟩ := ba (List.all_eq_true.mp h2 p hp)
    refine ⟨h3, ?_⟩
    cases q : h.get? (cT (frT h.get? as) p).2 with
    | none =>
      rw [q] at h4
      cases h4
    | some o =>
      rw [q] at h4
      exact ⟨o, rfl, h4⟩
  exact ⟨e1, h1, fun p hp => (key p hp).1, fun p hp => by
    obtain ⟨_, o, q, z⟩ := key p hp
    exact frT_none q z, fun p hp => by
    obtain ⟨_, o, q, z⟩ := key p hp
    rw [q, emptyTab_eq z]⟩
def hookY (n : Nat) (fa : List He.Fa) (fn : List He.DefD) (ts : List He.Tab) (tf : List He.Defn) (ex : PySem.W.Frag → Bool) : PySem.W.Hook where
  α := He.AlX
  obs := fun s => obsY n fa fn ts tf ex s.heap.get?
  val := fun w => He.valX fn ts w
  says := fun w h => ∃ K : PySem.W.Frag, K.In h ∧ SaysX fa fn ts tf ex w h K
  of := fun _ _ e => ⟨_, frT_in, saysY_of e⟩
  keeps := fun _ _ _ ⟨K, hK, c⟩ k => ⟨K, PySem.W.Frag.In.keeps hK k, ⟨c.t, c.more, c.hd, c.out, fun p hp => k _ _ (c.empty p hp)⟩⟩
theorem obsY_eq {n : Nat} {fa : List He.Fa} {fn : List He.DefD} {ts : List He.Tab} {tf : List He.Defn} {ex : PySem.W.Frag → Bool} {g : Addr → Option Obj} {s : Shared} (h : ∀ a, g a = s.heap.get? a) : obsY n fa fn ts tf ex g = (hookY n fa fn ts tf ex).obs s := by
  have e : g = s.heap.get? := funext h
  rw [e] <;> rfl
end DL
set_option Elab.async false
set_option linter.all false
set_option maxRecDepth 100000
set_option maxHeartbeats 0
namespace L21
open PySem PySem.Spec PyProof.Rows L2 DL
abbrev R : PySem.W.OpenRow := PySem.W.OpenLaw.row PySem.Challenge.rw_millhall_k21_refusals_apart
abbrev hk : PySem.W.Hook := DL.hookY 5 fa fn [] tf ex
def ob (s : PySem.W.SharedT) : He.AlX := DL.obsY 5 fa fn [] tf ex (HandSHeadRun.getT s)
theorem ob_eq (s : PySem.W.SharedT) : ob s = hk.obs s.abs := DL.obsY_eq (HandSHeadRun.getT_eq s)
def names0 : List PySem.Str := ["_wall", "MillFault", "BadSize", "BadPlan", "NoSuch", "NoRoom", "NoWay", "Short", "BadText", "BadDeed", "notched", "Barn", "Line", "read_row", "Pages", "Desk", "Train", "Hoist", "Row", "side_on", "_law_dice", "_law_roll", "_law_rounds", "_law_under", "NOTCHES", "DEEDS", "SIDES"]
def names : List PySem.Str := names0
theorem run (w : World) : HandSHeadRun.RunEq R (PySem.W.view R.prog [37]) hk ob 200000 names w := by
  intro os
  kernel_rfl
end L21
open PySem PySem.W PySem.Calls PyProof.Rows in
theorem L21.holds_of (hlaw : ∀ ns : List Int, ns.length ≤ 63 → ∃ s, L21.m_law [.scr ns] [] = .ok (.bl true) s) : PySem.Challenge.rw_millhall_k21_refusals_apart.Holds := by
  w_on; o_law
  refine HandSHeadRun.head_any (r := OpenLaw.row PySem.Challenge.rw_millhall_k21_refusals_apart) (q := view (OpenLaw.row PySem.Challenge.rw_millhall_k21_refusals_apart).prog [37]) (H := L21.hk) (ob := L21.ob) (M := 200000) (loose := L21.names) (d := HandSHeadRun.topDef (OpenLaw.row PySem.Challenge.rw_millhall_k21_refusals_apart).prog 37) (kwd := []) L21.ob_eq
    (by kernel_rfl) (fun s => by kernel_rfl) L21.run (by kernel_rfl) (by kernel_rfl) (by kernel_rfl) (by rfl) (by first | assumption | decide +kernel) (by decide +kernel) ⟨rfl, rfl, rfl, rfl, rfl, by decide +kernel⟩ ?hw ?hc
  case hw => w_witness2
  case hc =>
    refine LamX.walk_ofTsE (l := PySem.Challenge.rw_millhall_k21_refusals_apart) (n := 63) (k := 6) (x := "script") (CX := fun w => L2.CX PySem.Challenge.rw_millhall_k21_refusals_apart.prog w) rfl (by decide) (by kernel_rfl) ⟨rfl, by decide, by decide⟩ ?F (fun _ _ _ _ _ z => DL.cx_no z)
    intro w mg fa h Y G hmg0
    obtain ⟨K, KX, c⟩ := Y
    have T0 : ∀ base : Heap, (∀ p ∈ L21.tf, LamX.TabB base mg (He.cT K p).1 (He.cT K p).2) → L21.Txt w K mg base h := fun base TB => ⟨KX, G, c, TB⟩
    have e0 := He.glo_ok KX G (c.t.d.fact (L21.fa.findIdx fun f => match f with | .glo x => x == "law" | _ => false) (f := .glo "law") rfl)
    have hmg : mg ("law" : PySem.Str) = some (.ref fa) := by
      have e : (HandSHeadRun.topDef (OpenLaw.row PySem.Challenge.rw_millhall_k21_refusals_apart).prog 37).name = ("law" : PySem.Str) := by kernel_rfl
      rw [← e]
      exact hmg0
    have ea := hmg.symm.trans e0
    cases ea
    have F : L2.Fun K "law" "law" L21.s_law (He.fAd K ("law", none)) _ := DL.funOfD (Classical.choose_spec (c.t.d.def_ 17 (d := L21.d_law) rfl))
    refine ⟨K, KX, _, L21.tf.map (He.cT K), DL.SpD K (L21.MM K DL.Clo.nil) 1 L21.m_law, fun p hp => ?_, fun p hp => ?_, fun p hp => ?_, DL.binds_one F (fun _ _ _ _ _ _ _ => rfl), fun H a ns hl _ hT hS => DL.law_sp _ hlaw (fun p hp => ?_) rfl H a ns hl hT hS, fun base hK hG TB => L21.ok_law (T0 base fun p hp => TB _ (List.mem_map.mpr ⟨p, hp, rfl⟩))⟩
    · obtain ⟨q, hq, rfl⟩ := List.mem_map.mp hp
      exact c.empty q hq
    · obtain ⟨q, hq, rfl⟩ := List.mem_map.mp hp
      exact c.out q hq
    · obtain ⟨q, hq, rfl⟩ := List.mem_map.mp hp
      exact PySem.W.codeHd_of_K KX (c.hd q hq)
    · simp only [L21.MM, List.mem_cons, List.not_mem_nil, or_false] at hp
      rcases hp with rfl | rfl | rfl | rfl
      · exact ⟨_, List.mem_map.mpr ⟨("Barn", some "held"), by simp [L21.tf], rfl⟩, rfl⟩
      · exact ⟨_, List.mem_map.mpr ⟨("Train", some "__init__"), by simp [L21.tf], rfl⟩, rfl⟩
      · exact ⟨_, List.mem_map.mpr ⟨("read_row", none), by simp [L21.tf], rfl⟩, rfl⟩
      · exact ⟨_, List.mem_map.mpr ⟨("law", none), by simp [L21.tf], rfl⟩, rfl⟩
set_option Elab.async false
set_option linter.all false
set_option maxRecDepth 100000
set_option maxHeartbeats 2000000
namespace DR
open PySem L2 DL
end DR
set_option Elab.async false
set_option linter.all false
set_option maxRecDepth 100000
set_option maxHeartbeats 2000000
namespace DR
open PySem L2 DL
theorem minF_ints : ∀ (l : List Int) (a : Int), minF (.int a) (l.map D.int) = .int (l.foldl min a)
  | [], a => rfl
  | b :: l, a => by
    rw [List.map_cons, minF, List.foldl_cons, List.foldl_cons, ltD_int, show (if decide (b < a) = true then D.int b else D.int a) = D.int (min a b) by
      by_cases h : b < a
      · rw [if_pos (by simpa using h), show min a b = b by omega]
      · rw [if_neg (by simpa using h), show min a b = a by omega]]
    exact minF_ints l (min a b)
theorem foldl_min : ∀ (l : List Int) (a : Int), l.foldl min a ∈ a :: l ∧ ∀ x ∈ a :: l, l.foldl min a ≤ x
  | [], a => by simp
  | b :: l, a => by
    have ih := foldl_min l (min a b)
    rw [List.foldl_cons]
    generalize l.foldl min (min a b) = m at *
    have h1 := ih.2 (min a b) List.mem_cons_self
    refine ⟨?_, fun x hx => ?_⟩
    · rcases List.mem_cons.mp ih.1 with h | h
      · rcases (show min a b = a ∨ min a b = b by omega) with e | e
        · rw [h, e]; exact List.mem_cons_self
        · rw [h, e]; exact List.mem_cons_of_mem _ List.mem_cons_self
      · exact List.mem_cons_of_mem _ (List.mem_cons_of_mem _ h)
    · rcases List.mem_cons.mp hx with h | h
      · omega
      · rcases List.mem_cons.mp h with h | h
        · omega
        · exact ih.2 x (List.mem_cons_of_mem _ h)
theorem ok_i (l : List Int) : ∀ x ∈ l.map D.int, okN 9 x = true ∧ x.has .int = true := by
  intro x hx
  obtain ⟨a, _, rfl⟩ := List.mem_map.mp hx
  exact ⟨by simp [okN], rfl⟩
theorem min_ints {l : List Int} {m : Int} (hm : m ∈ l) (h : ∀ x ∈ l, m ≤ x) : minO [.lst (l.map D.int)] = some (.int m) := by
  cases l with
  | nil => cases hm
  | cons a l =>
    rw [List.map_cons, minO_sh .int (ok_i (a :: l)), minF_ints]
    have k := foldl_min l a
    have h1 := h _ k.1
    have h2 := k.2 _ hm
    rw [show l.foldl min a = m by omega]
end DR
set_option Elab.async false
set_option linter.all false
set_option maxRecDepth 100000
set_option maxHeartbeats 2000000
namespace DR
open PySem L2 DL
/-- the numbers of a row, by place -/
theorem atI_rmap {n : Nat} (y : Nat → D) {i : Int} (h : 0 ≤ i ∧ i < n) : atI ((List.range n).map y) i = some (y i.toNat) := by
  rw [atI_at (by rw [List.length_map, List.length_range]; omega), List.getElem?_map, List.getElem?_range (by omega)]
  rfl
theorem intsOf_fmap {γ : Type} (f : γ → Int) (l : List γ) : intsOf (l.map fun a => D.int (f a)) = some (l.map f) := by
  have := intsOf_map (l.map f)
  rwa [List.map_map] at this
theorem sum_ones {γ : Type} (l : List γ) : (l.map fun _ => (1 : Int)).sum = l.length := by
  induction l with
  | nil => rfl
  | cons a l ih => rw [List.map_cons, List.sum_cons, ih, List.length_cons]; omega
end DR
set_option Elab.async false
set_option linter.all false
set_option maxRecDepth 100000
set_option maxHeartbeats 2000000
namespace DR
open PySem L2 DL
structure Ord {γ : Type} (lt : γ → γ → Bool) : Prop where
  asy : ∀ a b, lt a b = true → lt b a = false
  tr : ∀ a b c, lt a b = false → lt b c = false → lt a c = false
abbrev tI (l : List Int) : D := .tup (l.map .int)
abbrev pr (p : Int × Int) : D := .tup [.int p.1, .int p.2]
end DR
set_option Elab.async false
set_option linter.all false
set_option maxRecDepth 100000
set_option maxHeartbeats 2000000
namespace DR
open PySem L2 DL
def look (m : List (Int × Int)) (k : Int) : Option Int := (m.find? fun p => decide (p.1 = k)).map (·.2)
theorem atI_map {γ : Type} [Inhabited γ] (y : γ → D) {l : List γ} {i : Int} (h : 0 ≤ i ∧ i < l.length) : atI (l.map y) i = some (y l[i.toNat]!) := by
  have hk : i.toNat < l.length := by omega
  unfold atI
  rw [ixN_ok (by rw [List.length_map]; exact h)]
  show (l.map y)[i.toNat]? = _
  rw [List.getElem?_map, List.getElem?_eq_getElem hk, getElem!_pos l i.toNat hk]
  rfl
theorem minT_ints {l : List Int} {m : Int} (hm : m ∈ l) (h : ∀ x ∈ l, m ≤ x) : minTO [.tup (l.map D.int)] = some (.int m) := by
  cases l with
  | nil => cases hm
  | cons a l => exact min_ints hm h
end DR
set_option Elab.async false
set_option linter.all false
set_option maxRecDepth 100000
set_option maxHeartbeats 2000000
namespace DL
open PySem PySem.Spec PyProof.Rows L2 DR
def ins {γ : Type} [DecidableEq γ] (K : List γ) (k : γ) : List γ := if k ∈ K then K else K ++ [k]
end DL
set_option Elab.async false
set_option linter.all false
set_option maxRecDepth 100000
set_option maxHeartbeats 2000000
namespace DR
open PySem L2 DL
/-- a roll -/
theorem roll_ex (x : Dc) (m : Int) (h : 0 < m ∧ m < 18446744073709551616) : ∃ v x', (0 ≤ v ∧ v < m) ∧ ∀ t, m_law_roll [.han 0, .int m] (Dc.d x :: t) = .ok (.int v) (Dc.d x' :: t) :=
  ⟨_, _, x.roll_bd h.1, fun t => roll_eq x m t h⟩
theorem okN_non {n : Nat} : okN n .non = true := rfl
theorem ite_ok_t {c : Prop} [Decidable c] {b : Bool} {s : DS} : (if c then R.ok true s else R.ok b s) = R.ok (decide c || b) s := by
  by_cases h : c
  · rw [if_pos h, decide_eq_true h]; rfl
  · rw [if_neg h, decide_eq_false h]; rfl
theorem ite_ok_f {c : Prop} [Decidable c] {b : Bool} {s : DS} : (if c then R.ok b s else R.ok false s) = R.ok (decide c && b) s := by
  by_cases h : c
  · rw [if_pos h, decide_eq_true h]; rfl
  · rw [if_neg h, decide_eq_false h]; rfl
section
variable {η : DL.Env} {s : DS} {put : D → DL.Env → Option DL.Env} {ft : DL.Env → DS → R Bool} {fe : DL.Env → DS → R D}
theorem lcrm_ {y : Nat → D} {n : Nat} {lo : Int} (h : ∀ i, i < n → ∃ η1, put (.int (lo + (i : Int))) η = some η1 ∧ fe η1 s = .ok (y i) s) : lcF put yesT fe η (rngL lo n) s = .ok ((List.range n).map y) s := by
  rw [rngL_map]
  exact lcF_map _ y _ fun i hi => h i (List.mem_range.mp hi)
theorem anym_ {γ : Type} {e : γ → D} {y : γ → Bool} {l : List γ} (h : ∀ a ∈ l, ∃ η1, put (e a) η = some η1 ∧ fe η1 s = .ok (.bl (y a)) s) : anyF true put yesT fe η (l.map e) s = .ok (.bl (l.any y)) s := by
  rw [anyF_pure e (fun _ => true) y l fun a ha => by
    obtain ⟨η1, h1, h2⟩ := h a ha
    exact ⟨η1, h1, rfl, fun _ => h2⟩]
  simp
end
theorem deref_h1 {x y : D} {t : DS} : deref (x :: y :: t) (.han 1) = y := rfl
theorem deref_h2 {x y z : D} {t : DS} : deref (x :: y :: z :: t) (.han 2) = z := rfl
theorem toNat_1 {i : Nat} : (1 + (i : Int)).toNat = i + 1 := by omega
theorem toNat_11 {i : Nat} : (1 + (i : Int) - 1).toNat = i := by omega
theorem toNat_p {i : Nat} : ((i : Int) + 1).toNat = i + 1 := by omega
theorem eqB_nn : eqB .non .non = true := rfl
theorem eqB_ns {z : Str} : eqB .non (.str z) = false := rfl
theorem eqB_sn {z : Str} : eqB (.str z) .non = false := rfl
theorem eqB_ni {z : Int} : eqB .non (.int z) = false := rfl
theorem eqB_in {z : Int} : eqB (.int z) .non = false := rfl
theorem eqB_bb {a b : Bool} : eqB (.bl a) (.bl b) = (a == b) := rfl
theorem eqB_tt {l m : List D} : eqB (.tup l) (.tup m) = eqBL l m := by unfold eqB; rfl
theorem eqBL_nn : eqBL [] [] = true := by unfold eqBL; rfl
theorem eqBL_cc {x y : D} {l m : List D} : eqBL (x :: l) (y :: m) = (eqB x y && eqBL l m) := by rw [eqBL]
theorem eqBL_nc {y : D} {m : List D} : eqBL [] (y :: m) = false := by simp [eqBL]
theorem eqBL_cn {y : D} {m : List D} : eqBL (y :: m) [] = false := by simp [eqBL]
theorem eqB_nt {m : List D} : eqB .non (.tup m) = false := rfl
theorem eqB_tn {m : List D} : eqB (.tup m) .non = false := rfl
theorem opEq_tt {x y : D} {l m : List D} (h : okN 9 (.tup (x :: l)) = true) (h2 : okN 9 (.tup (y :: m)) = true) : opEq (.tup (x :: l)) (.tup (y :: m)) = some (.bl (eqBL (x :: l) (y :: m))) := by rw [opEq_ok h h2, eqB_tt]
theorem opNe_tt {x y : D} {l m : List D} (h : okN 9 (.tup (x :: l)) = true) (h2 : okN 9 (.tup (y :: m)) = true) : opNe (.tup (x :: l)) (.tup (y :: m)) = some (.bl (!eqBL (x :: l) (y :: m))) := by rw [opNe_ok h h2, eqB_tt]
theorem opNe_xn {z : Str} (h : PyData.strOk z = true) : opNe (.str z) .non = some (.bl true) := by rw [opNe_ok (by simpa [okN] using h) rfl]; rfl
theorem opNe_nx {z : Str} (h : PyData.strOk z = true) : opNe .non (.str z) = some (.bl true) := by rw [opNe_ok rfl (by simpa [okN] using h)]; rfl
theorem opNe_nnon : opNe .non .non = some (.bl false) := by rw [opNe_ok rfl rfl]; rfl
theorem str_beq {a b : Str} : (a == b) = decide (a = b) := by
  rw [Bool.eq_iff_iff]; simp
theorem flt_strs {z : Str} {l : List Str} : flt (.str z) (l.map D.str) = true := by
  unfold flt
  rw [Bool.or_eq_true]
  refine .inr ?_
  rw [Bool.and_eq_true]
  refine ⟨rfl, List.all_eq_true.mpr fun d hd => ?_⟩
  obtain ⟨a, _, rfl⟩ := List.mem_map.mp hd
  rfl
theorem flt_intsL {z : Int} {l : List Int} : flt (.int z) (l.map D.int) = true := by
  unfold flt
  rw [Bool.or_eq_true]
  refine .inl ?_
  rw [Bool.and_eq_true]
  refine ⟨rfl, List.all_eq_true.mpr fun d hd => ?_⟩
  obtain ⟨a, _, rfl⟩ := List.mem_map.mp hd
  rfl
theorem any_strs {z : Str} {l : List Str} : ((l.map D.str).any fun y => eqB y (.str z)) = decide (z ∈ l) := by
  induction l with
  | nil => rfl
  | cons a l ih =>
    rw [List.map_cons, List.any_cons, ih, eqB_ss, str_beq, Bool.eq_iff_iff]
    simp only [Bool.or_eq_true, decide_eq_true_eq, List.mem_cons]
    exact ⟨fun h => h.imp Eq.symm id, fun h => h.imp Eq.symm id⟩
theorem any_intsL {z : Int} {l : List Int} : ((l.map D.int).any fun y => eqB y (.int z)) = decide (z ∈ l) := by
  induction l with
  | nil => rfl
  | cons a l ih =>
    rw [List.map_cons, List.any_cons, ih, eqB_ii, Bool.eq_iff_iff]
    simp only [Bool.or_eq_true, decide_eq_true_eq, List.mem_cons, beq_iff_eq]
    exact ⟨fun h => h.imp Eq.symm id, fun h => h.imp Eq.symm id⟩
theorem inX_strs {z : Str} {l : List Str} : opInX (.str z) (.lst (l.map D.str)) = some (.bl (decide (z ∈ l))) := by rw [opInX_lstF flt_strs, any_strs]
theorem ninX_strs {z : Str} {l : List Str} : opNinX (.str z) (.lst (l.map D.str)) = some (.bl (!decide (z ∈ l))) := by rw [opNinX_lstF flt_strs, any_strs]
theorem inX_ints {z : Int} {l : List Int} : opInX (.int z) (.lst (l.map D.int)) = some (.bl (decide (z ∈ l))) := by rw [opInX_lstF flt_intsL, any_intsL]
theorem ninX_ints {z : Int} {l : List Int} : opNinX (.int z) (.lst (l.map D.int)) = some (.bl (!decide (z ∈ l))) := by rw [opNinX_lstF flt_intsL, any_intsL]
theorem inX_strsT {z : Str} {l : List Str} : opInX (.str z) (.tup (l.map D.str)) = some (.bl (decide (z ∈ l))) := by rw [opInX_tupF flt_strs, any_strs]
theorem ninX_strsT {z : Str} {l : List Str} : opNinX (.str z) (.tup (l.map D.str)) = some (.bl (!decide (z ∈ l))) := by rw [opNinX_tupF flt_strs, any_strs]
theorem inX_intsT {z : Int} {l : List Int} : opInX (.int z) (.tup (l.map D.int)) = some (.bl (decide (z ∈ l))) := by rw [opInX_tupF flt_intsL, any_intsL]
theorem ninX_intsT {z : Int} {l : List Int} : opNinX (.int z) (.tup (l.map D.int)) = some (.bl (!decide (z ∈ l))) := by rw [opNinX_tupF flt_intsL, any_intsL]
theorem sumO_nil : sumO [.lst []] = some (.int 0) := rfl
end DR
set_option Elab.async false
set_option linter.all false
set_option maxRecDepth 100000
set_option maxHeartbeats 2000000
namespace DR
open PySem L2 DL PyProof.Rows
theorem ltD_ord : Ord ltD where
  asy a b h := by
    cases q : ltD b a with
    | false => rfl
    | true =>
      have := PyProof.Rows.lex_trans _ _ _ h q
      rw [PyProof.Rows.lex_irrefl] at this
      cases this
  tr a b c h g := by
    cases q : ltD a c with
    | false => rfl
    | true =>
      rcases PyProof.Rows.lex_negTrans _ (PySem.W.keyToks (toPD b)) _ q with k | k
      · rw [show lexLt itemOrd _ _ = ltD a b from rfl, h] at k; cases k
      · rw [show lexLt itemOrd _ _ = ltD b c from rfl, g] at k; cases k
theorem Ord.of {γ : Type} (e : γ → D) : Ord (fun a b => ltD (e a) (e b)) := ⟨fun a b => ltD_ord.asy _ _, fun a b c => ltD_ord.tr _ _ _⟩
end DR
namespace DL
open PySem PySem.Spec PyProof.Rows L2 DR
end DL
set_option Elab.async false
set_option linter.all false
set_option maxRecDepth 100000
set_option maxHeartbeats 4000000
namespace L21
open PySem L2 DL DR
theorem isStr_s {a : Str} : isStr (.str a) = true := rfl
local macro_rules | `(tactic| simp_arith [$ls,*]) => `(tactic| simp -implicitDefEqProofs (disch := first | omega | assumption | exact DR.okN_non | (simp only [okN, okNL, okNL_mi, D.has, hasL, flt, isI, isS, List.all_cons, List.all_nil, Bool.or_true, Bool.true_or, Bool.false_or, Bool.false_and, Bool.and_self, Bool.and_true, Bool.true_and]; done) | (simp only [List.length_cons, List.length_nil, List.length_append, List.length_map, List.length_range]; omega) | (simp only [okN, okNL, Bool.and_self, Bool.and_true, Bool.true_and]; decide +kernel) | (simp only [okN, okNL, Bool.and_eq_true, and_true, true_and]; (try (repeat' apply And.intro)); all_goals first | rfl | assumption) | decide +kernel | fail) only [$ls,*, List.length_map, Int.toNat_natCast, Int.zero_add, raiseR_eq, mthD_eq, isStr_s, inCO_s, atI_map, atI_rmap, sumO_map, intsOf_fmap, sum_ones, rngL_len, Option.getD_some, Option.getD_none, Option.isSome_some, Option.isSome_none, Option.map_none, Int.toNat_natCast, Int.zero_add, Int.sub_zero, Int.add_zero, List.length_map, List.length_range, deref_h1, deref_h2, ite_ok_t, ite_ok_f, sumO_nil, inX_strs, ninX_strs, inX_ints, ninX_ints, inX_strsT, ninX_strsT, inX_intsT, ninX_intsT, toNat_1, toNat_11, toNat_p, opEqDs_d, opEqDs_s, opEqN_l, opNeN_l, List.isEmpty_cons, List.isEmpty_nil, List.isEmpty_map, lc2D_eq, popB_eq, popK_eq, popM_c, popSet_s, popSet_h, popU_c, conDicD_eq, sqO_t, sqO_l, revO_t, asgmB_eq, opEqO_o, opNeO_o, opEqO_s, opNeO_s, gmG_eq, slB_eq, slU_eq, gmSub_eq, gmN_eq, gmC_eq, gmT_eq, seqK_nx, deref_tup0, calmDD_eq, calmDK_d, dnewD_eq, frzDB_eq, frzDK_d, opDix_i, opDix_s, opDin_i, opDin_s, opDnin_i, opDnin_s, setDi_i, setDi_s, getDi_i, getDi_s, isDic_d, getD1_eq, getD2_eq, get1O_i, get1O_s, get2O_i, get2O_s, lenDO_d, listKO_d, dicK_d, dicV_d, dicI_d, tupIO_d, lstIO_d, lrg1_is, dicIO_d, dictO_d, nilP_eq, consP_eq, dispD_eq, isKey_i, isKey_s, opIs_x, opIsNot_x, isN_n, isN_i, isN_s, isN_t, isN_l, untD_eq, un0_t, ix0D_eq, isTup0_t, tup0O_l, rgaD_eq, minTO_eq, enumTO_t, maxTO_eq, sortK_eq, bopTD_eq, ofO_some, seqB_eq, then_nx, then_rt, then_bk, then_ct, then_ex, then_bad, bind_ok, bind_ex, bind_bad, toF_ok, toF_ex, toF_bad, ofO_some, ofO_none, nx_ok, cD_eq, vD_0, vD_s, vB_0, vB_o, vB_s, bopD_eq, uopD_eq, tstD_eq, asB_bl, asI_int, deref_int, deref_bl, deref_str, deref_non, deref_tup, deref_lst, deref_dic, deref_obj, deref_scr, deref_han, chD_eq, ch3D_eq, andT_eq, orT_eq, notT_eq, ifD_eq, andD_eq, orD_eq, notD_eq, nilA_eq, consA_eq, tupD_eq, lstD_eq, fldD_eq, bltD_eq, partN_eq, partS_eq, sliceD_eq, callD_eq, gateD_eq, methD_eq, isC_obj, calmD_eq, calmN_eq, calmK_obj, hanD_eq, notObj_l, notObj_t, notObj_d, setB_eq, setOB_eq, setF_eq, setOF_eq, ifB_eq, retB_eq, retN_eq, dropB_eq, nextB_eq, breakB_eq, contB_eq, raiseA_eq, augB_eq, frzB_eq, frzL_nil, frzL_cons, frzE_zl, frzE_zd, frzE_zv, frzE_zn, frzE_s, asgB_eq, asg2B_eq, parB_eq, putAll_nil, putAll_cons, asgFB_eq, nilF_eq, consV_eq, consO_eq, gN_eq, gsN_eq, gsC_eq, gT_eq, fnD_eq, fnK_nx, fnK_rt, fnK_ex, fnK_bad, inD_eq, inK_nx, inK_ex, toldD_eq,  ite_yes, ite_no, dec_yes, dec_no, plV_eq, plK_o, plK_h, plE_eq, plEK_h, wrF_slot, wrF_han, wrS_o, wrH_s, wrSU_s, wrHU_s, fldB_eq, fldU_eq, stB_eq, stAK_s, stAugB_eq, fldAugB_eq, plcD_slot, plcD_han, plS_o, mtB_eq, mthD_eq, isLst_l, appU_l, setL_l, getL_l, ixN_ok, atI_0, atI_1, atI_2, atI_3, atI_4, atI_5, atI_6, atI_7, atI_8, atI_9, atI_10, atI_11, atI_12, atI_13, atI_14, atI_15, forB_eq, rngD_eq, iterD_eq, rng1_int, rng2_int, scrO_l, scrO_s, lstO_l, tupO_l, putK_some, goK_nx, goK_ct, goK_bk, goK_rt, goK_ex, lcD_eq, wipeE_nil, wipeE_cons, yesT_eq, lcPut_some, wipB_eq, forW_eq, preB_eq, wip_nx, wip_bk, wip_ct, wip_rt, wip_ex, wip_bad, keep_t, keep_f, keep_n, asgO_s, asgK_eq, asgFK_eq, putS_nil, putS_v, putS_o, and_self, ite_self, wrS_o, wrSU_s, true_and, and_true, false_and, and_false, decide_true, decide_false, Int.reduceLT, Int.reduceLE, Int.reduceEq, Int.reduceAdd, Int.reduceSub, Int.reduceMul, Int.reduceNeg, Int.reduceDiv, Int.reduceMod, Int.reduceNe, turnF_eq,
  cut_to, cut_from, cut_both, opCut_l, opCut_t, opCut_s, opPow_int, opAdd_tup, opAdd_lst, opEq_ts, opEq_ls, opEq_st, opEq_sl, opNe_ts, opNe_ls, opNe_st, opNe_sl, opEq_ss, opNe_ss, opEq_nn, opNe_self, opEq_self, opNe_nn, opNe_lnil, opEq_lnil, opNe_is, opEq_is, opNe_si, opEq_si, opNe_bb, opEq_bb, opAdd_int, opAug_int, opSub_int, opMul_r, opMul_l, opMulI_r, opMulI_l, opDiv_int, opMod_int, opLt_int, opLe_int, opGt_int, opGe_int, opEq_int, opNe_int, min2_int, max2_int, min3_int, min4_int, opNeg_int, listO_l, listO_t, tupleO_l, tupleO_t, zipO_ll, zipO_tt, zipMO_tl, conIxD_eq, disp1T_eq, opTin_d, opTnin_d, opTix_d, setTi_d, dkT_l, sortXO_l, sortXO_d, sortXO_t, deref_dit, enumO_l, enumLO_l, tryB_eq, tryK_nx, tryK_rt, tryK_ex1, tryK_ex0, nox_rt, nox_nx, Bool.true_or, Bool.or_true, Bool.false_or, Bool.or_false, lenO_l, lenO_t, opIn_lst, opIn_tup, opNin_lst, opNin_tup, opInX_lstF, opLtX_int, opGtX_int, opInX_tupF, opNinX_lstF, opNinX_tupF, opInX_lst, opInX_tup, opNinX_lst, opNinX_tup, eqB_nn, eqB_ns, eqB_sn, eqB_ni, eqB_in, eqB_bb, eqB_tt, eqBL_nn, eqBL_cc, eqBL_nc, eqBL_cn, eqB_nt, eqB_tn, opEq_tt, opNe_tt, opNe_xn, opNe_nx, opNe_nnon, str_beq, eqB_ss, eqB_ii, List.any_cons, List.any_nil, gSumD_eq, gAnyD_eq, anyF_nil, anyPut_some, absO_int, intO_int, intO_bl, fldO_eq, opIx_t, opIx_l,
  Bool.true_and, Bool.and_true, Bool.false_and, Bool.and_false, List.map_cons, List.map_nil, List.length_cons, List.length_nil, List.set_cons_zero, List.set_cons_succ, List.getElem?_cons_zero, List.getElem?_cons_succ, Option.map_some, Option.bind_some, decide_eq_true_eq, Bool.not_eq_true', decide_eq_false_iff_not, Bool.not_true, Bool.false_eq_true, reduceCtorEq, Bool.not_false, ite_true, ite_false, if_true, if_false, Nat.reduceAdd, Nat.reduceLeDiff, Nat.reduceLT, Nat.reduceSub, beq_self_eq_true, Nat.reduceEqDiff, reduceIte, Int.reduceToNat, Int.reducePow, List.take_zero, List.take_nil, List.drop_nil, List.drop_zero, List.take_succ_cons, List.drop_succ_cons, forF_nil, padE, List.length_append, List.replicate, List.append_nil, List.cons_append, List.nil_append])
abbrev dkD : D := .obj 3 [.str "1 bring ann rye 12\n1 grind ann rye 8\n2 fetch ann rye 5", .lst [], .lst []]
theorem desk_ok (s : DS) : m_Desk_init [] s = .ok dkD s := by
  unfold m_Desk_init B_Desk_init
  simp_arith [true_and]
theorem undo_ex (s : DS) : m_Desk_undo [dkD] s = .ex 8 [] s := by
  unfold m_Desk_undo B_Desk_undo
  simp_arith [true_and]
abbrev pD (p : Int × Int) : D := .tup [.int p.1, .int p.2]
theorem min_two (a b : Int) : minO [.lst [.int a, .int b]] = some (.int (min a b)) := by
  have := minT_ints (l := [a, b]) (m := min a b) (by rcases (by omega : min a b = a ∨ min a b = b) with h | h <;> simp [h]) (fun x hx => by simp at hx; omega)
  exact this
theorem train_ex (s : DS) (n : Int) : m_Train_init [.lst [.tup [.int 2, .int (2 + n)]]] s = .ex 2 [] s := by
  obtain ⟨P, hP⟩ : ∃ P : List (Int × Int), P = [((2, 2 + n) : Int × Int)] := ⟨_, rfl⟩
  have e : [D.tup [.int 2, .int (2 + n)]] = P.map pD := by rw [hP]; rfl
  have c : (P.any fun p => decide (min p.1 p.2 < 3)) = true := by rw [hP]; simp; omega
  have lP : P.length ≤ 1 := by rw [hP]; exact Nat.le_refl 1
  unfold m_Train_init B_Train_init
  rw [e]
  simp_arith [true_and]
  rw [DR.anym_ (fun p hp => ⟨_, rfl, by (
    have mt := min_two p.1 p.2
    show _ = DL.R.ok (D.bl (decide (min p.1 p.2 < 3))) s
    simp_arith [mt]; try rfl)⟩)]
  simp_arith [c]
theorem notched_ex (s : DS) (n : Int) (h : 1 ≤ n) : m_notched [.int (4999 + n)] s = .ex 1 [] s := by
  unfold m_notched B_notched
  simp_arith [true_and]
theorem hoist_ok (s : DS) (n : Int) (h : 1 ≤ n) : m_Hoist_init [.int 3, .int n, .int 1, .int 1, .int 0] s = .ok (.obj 5 [.int 3, .int n, .int 1, .int 1, .int 0]) s := by
  unfold m_Hoist_init B_Hoist_init
  simp_arith [true_and]
theorem go_ex (s : DS) (n : Int) (h : 1 ≤ n) : m_Hoist_go [.obj 5 [.int 3, .int n, .int 1, .int 1, .int 0], .int 0, .int 1, .int (n + 1)] s = .ex 4 [] s := by
  unfold m_Hoist_go B_Hoist_go
  simp_arith [true_and]
theorem row_ok (s : DS) : m_Row_init [] s = .ok (.obj 6 [.tup []]) s := by
  unfold m_Row_init B_Row_init
  simp_arith [true_and]
theorem next_ex (s : DS) (z : Str) : m_Row_next_lot [.obj 6 [.tup []], .str z] s = .ex 5 [] s := by
  unfold m_Row_next_lot B_Row_next_lot
  simp_arith [lcF_nil]
theorem barn_ok (s : DS) : m_Barn_init [.int 5] s = .ok (.obj 0 [.int 5, .tup []]) s := by
  unfold m_Barn_init B_Barn_init
  simp_arith [true_and]
theorem held_ok (s : DS) (z : Str) : m_Barn_held [.obj 0 [.int 5, .tup []], .str z] s = .ok (.int 0) s := by
  have e : intsOf [] = some [] := rfl
  unfold m_Barn_held B_Barn_held
  simp_arith [lcF_nil, e]
  rfl
theorem draw_ex (s : DS) (n : Int) (h : 1 ≤ n) : m_Barn_draw [.obj 0 [.int 5, .tup []], .str "rye", .int n] s = .ex 6 [] s := by
  have e := held_ok s "rye"
  unfold m_Barn_draw B_Barn_draw
  simp_arith [e]
/-- "x" so many times -/
abbrev xz (n : Int) : Str := Txt.mul "x" n
theorem sg_x : ("x" : Str) = ⟨#[120]⟩ := by decide +kernel
theorem tl_x (n : Nat) : TL.tl (xz (n : Int)) = List.replicate n 120 := by
  unfold xz
  rw [sg_x]
  have := PyProof.Rows.mul_one_list 120 (n : Int)
  rwa [Int.toNat_natCast] at this
theorem tl_sp : TL.tl (" " : Str) = [32] := by decide +kernel
theorem join_one (z : Str) : Txt.join " " [z] = z := by
  have : [Txt.join " " [z]].map TL.tl = [z].map TL.tl := by
    rw [List.map_cons, List.map_nil, List.map_cons, List.map_nil, TL.join_eq, TL.tl_join]
    rfl
  have := TL.map_tl_inj this
  exact List.cons.inj this |>.1
theorem side_x : ∀ z ∈ S_SIDES, 120 ∉ TL.tl z := by decide +kernel
theorem xs_at {n : Int} (h1 : 1 ≤ n) (h2 : n ≤ 90) : Txt.split (xz n) " " = [xz n] ∧ xz n ∉ S_SIDES ∧ (xz n).length ≤ 90 := by
  obtain ⟨m, rfl⟩ := Int.eq_ofNat_of_zero_le (show 0 ≤ n by omega)
  have e := tl_x m
  refine ⟨?_, fun z => ?_, ?_⟩
  · have := TL.split_join tl_sp (by decide +kernel) (parts := [xz (m : Int)]) (by simp) fun p hp => by
      rw [List.mem_singleton.mp hp, e]
      intro z
      have := List.eq_of_mem_replicate z
      omega
    rwa [join_one] at this
  · refine side_x _ z ?_
    rw [e]
    exact List.mem_replicate.mpr ⟨by omega, rfl⟩
  · rw [TL.len_tl, e, List.length_replicate]
    omega
theorem mul_x {n : Int} (h1 : 1 ≤ n) (h2 : n ≤ 90) : opMulS (.str "x") (.int n) = some (.str (xz n)) := opMulS_s ⟨by omega, by omega, by
  have : ("x" : Str).length = 1 := by decide +kernel
  rw [this]
  omega⟩
theorem read_ex (s : DS) (n : Int) (h1 : 1 ≤ n) (h2 : n ≤ 90) : m_read_row [.str (xz n)] s = .ex 7 [.int 0] s := by
  obtain ⟨e, _, hl⟩ := xs_at h1 h2
  have h : splitO (.str (xz n)) [.str " "] = some (.lst [.str (xz n)]) := by
    rw [splitO_s ⟨by decide +kernel, by omega⟩, e]
    rfl
  have hn : opNe (.int ((List.length [D.str (xz n)] : Nat) : Int)) (.int 5) = some (.bl true) := rfl
  unfold m_read_row B_read_row
  simp_arith [h, hn]
theorem side_ex (s : DS) (n : Int) (h1 : 1 ≤ n) (h2 : n ≤ 90) : m_side_on [.str (xz n), .int 1] s = .ex 3 [] s := by
  obtain ⟨_, e, _⟩ := xs_at h1 h2
  have h : inCO true S_SIDES (.str (xz n)) = some (.bl true) := by
    unfold inCO
    simp [e]
  unfold m_side_on B_side_on
  simp_arith [h]
end L21
set_option Elab.async false
set_option linter.all false
set_option maxRecDepth 100000
set_option maxHeartbeats 4000000
namespace L21
open PySem L2 DL DR
theorem isED_1 {b : Bool} {y : Sl} {s : DS} : isED 1 b [.no, .v (.clo 0 []), y] s = .ok (.bl b) s := rfl
theorem cloD_eq {j : Nat} {η : DL.Env} {s : DS} : cloD j η s = .ok (.clo j []) s := rfl
local macro_rules | `(tactic| simp_arith [$ls,*]) => `(tactic| simp -implicitDefEqProofs (disch := first | omega | assumption | exact DR.okN_non | (simp only [okN, okNL, okNL_mi, D.has, hasL, flt, isI, isS, List.all_cons, List.all_nil, Bool.or_true, Bool.true_or, Bool.false_or, Bool.false_and, Bool.and_self, Bool.and_true, Bool.true_and]; done) | (simp only [List.length_cons, List.length_nil, List.length_append, List.length_map, List.length_range]; omega) | (simp only [okN, okNL, Bool.and_self, Bool.and_true, Bool.true_and]; decide +kernel) | (simp only [okN, okNL, Bool.and_eq_true, and_true, true_and]; (try (repeat' apply And.intro)); all_goals first | rfl | assumption) | decide +kernel | fail) only [$ls,*, List.length_map, Int.toNat_natCast, Int.zero_add, raiseR_eq, mthD_eq, isStr_s, inCO_s, isED_1, cloD_eq, atI_map, atI_rmap, sumO_map, intsOf_fmap, sum_ones, rngL_len, Option.getD_some, Option.getD_none, Option.isSome_some, Option.isSome_none, Option.map_none, Int.toNat_natCast, Int.zero_add, Int.sub_zero, Int.add_zero, List.length_map, List.length_range, deref_h1, deref_h2, ite_ok_t, ite_ok_f, sumO_nil, inX_strs, ninX_strs, inX_ints, ninX_ints, inX_strsT, ninX_strsT, inX_intsT, ninX_intsT, toNat_1, toNat_11, toNat_p, opEqDs_d, opEqDs_s, opEqN_l, opNeN_l, List.isEmpty_cons, List.isEmpty_nil, List.isEmpty_map, lc2D_eq, popB_eq, popK_eq, popM_c, popSet_s, popSet_h, popU_c, conDicD_eq, sqO_t, sqO_l, revO_t, asgmB_eq, opEqO_o, opNeO_o, opEqO_s, opNeO_s, gmG_eq, slB_eq, slU_eq, gmSub_eq, gmN_eq, gmC_eq, gmT_eq, seqK_nx, deref_tup0, calmDD_eq, calmDK_d, dnewD_eq, frzDB_eq, frzDK_d, opDix_i, opDix_s, opDin_i, opDin_s, opDnin_i, opDnin_s, setDi_i, setDi_s, getDi_i, getDi_s, isDic_d, getD1_eq, getD2_eq, get1O_i, get1O_s, get2O_i, get2O_s, lenDO_d, listKO_d, dicK_d, dicV_d, dicI_d, tupIO_d, lstIO_d, lrg1_is, dicIO_d, dictO_d, nilP_eq, consP_eq, dispD_eq, isKey_i, isKey_s, opIs_x, opIsNot_x, isN_n, isN_i, isN_s, isN_t, isN_l, untD_eq, un0_t, ix0D_eq, isTup0_t, tup0O_l, rgaD_eq, minTO_eq, enumTO_t, maxTO_eq, sortK_eq, bopTD_eq, ofO_some, seqB_eq, then_nx, then_rt, then_bk, then_ct, then_ex, then_bad, bind_ok, bind_ex, bind_bad, toF_ok, toF_ex, toF_bad, ofO_some, ofO_none, nx_ok, cD_eq, vD_0, vD_s, vB_0, vB_o, vB_s, bopD_eq, uopD_eq, tstD_eq, asB_bl, asI_int, deref_int, deref_bl, deref_str, deref_non, deref_tup, deref_lst, deref_dic, deref_obj, deref_scr, deref_han, chD_eq, ch3D_eq, andT_eq, orT_eq, notT_eq, ifD_eq, andD_eq, orD_eq, notD_eq, nilA_eq, consA_eq, tupD_eq, lstD_eq, fldD_eq, bltD_eq, partN_eq, partS_eq, sliceD_eq, callD_eq, gateD_eq, methD_eq, isC_obj, calmD_eq, calmN_eq, calmK_obj, hanD_eq, notObj_l, notObj_t, notObj_d, setB_eq, setOB_eq, setF_eq, setOF_eq, ifB_eq, retB_eq, retN_eq, dropB_eq, nextB_eq, breakB_eq, contB_eq, raiseA_eq, augB_eq, frzB_eq, frzL_nil, frzL_cons, frzE_zl, frzE_zd, frzE_zv, frzE_zn, frzE_s, asgB_eq, asg2B_eq, parB_eq, putAll_nil, putAll_cons, asgFB_eq, nilF_eq, consV_eq, consO_eq, gN_eq, gsN_eq, gsC_eq, gT_eq, fnD_eq, fnK_nx, fnK_rt, fnK_ex, fnK_bad, inD_eq, inK_nx, inK_ex, toldD_eq,  ite_yes, ite_no, dec_yes, dec_no, plV_eq, plK_o, plK_h, plE_eq, plEK_h, wrF_slot, wrF_han, wrS_o, wrH_s, wrSU_s, wrHU_s, fldB_eq, fldU_eq, stB_eq, stAK_s, stAugB_eq, fldAugB_eq, plcD_slot, plcD_han, plS_o, mtB_eq, mthD_eq, isLst_l, appU_l, setL_l, getL_l, ixN_ok, atI_0, atI_1, atI_2, atI_3, atI_4, atI_5, atI_6, atI_7, atI_8, atI_9, atI_10, atI_11, atI_12, atI_13, atI_14, atI_15, forB_eq, rngD_eq, iterD_eq, rng1_int, rng2_int, scrO_l, scrO_s, lstO_l, tupO_l, putK_some, goK_nx, goK_ct, goK_bk, goK_rt, goK_ex, lcD_eq, wipeE_nil, wipeE_cons, yesT_eq, lcPut_some, wipB_eq, forW_eq, preB_eq, wip_nx, wip_bk, wip_ct, wip_rt, wip_ex, wip_bad, keep_t, keep_f, keep_n, asgO_s, asgK_eq, asgFK_eq, putS_nil, putS_v, putS_o, and_self, ite_self, wrS_o, wrSU_s, true_and, and_true, false_and, and_false, decide_true, decide_false, Int.reduceLT, Int.reduceLE, Int.reduceEq, Int.reduceAdd, Int.reduceSub, Int.reduceMul, Int.reduceNeg, Int.reduceDiv, Int.reduceMod, Int.reduceNe, turnF_eq,
  cut_to, cut_from, cut_both, opCut_l, opCut_t, opCut_s, opPow_int, opAdd_tup, opAdd_lst, opEq_ts, opEq_ls, opEq_st, opEq_sl, opNe_ts, opNe_ls, opNe_st, opNe_sl, opEq_ss, opNe_ss, opEq_nn, opNe_self, opEq_self, opNe_nn, opNe_lnil, opEq_lnil, opNe_is, opEq_is, opNe_si, opEq_si, opNe_bb, opEq_bb, opAdd_int, opAug_int, opSub_int, opMul_r, opMul_l, opMulI_r, opMulI_l, opDiv_int, opMod_int, opLt_int, opLe_int, opGt_int, opGe_int, opEq_int, opNe_int, min2_int, max2_int, min3_int, min4_int, opNeg_int, listO_l, listO_t, tupleO_l, tupleO_t, zipO_ll, zipO_tt, zipMO_tl, conIxD_eq, disp1T_eq, opTin_d, opTnin_d, opTix_d, setTi_d, dkT_l, sortXO_l, sortXO_d, sortXO_t, deref_dit, enumO_l, enumLO_l, tryB_eq, tryK_nx, tryK_rt, tryK_ex1, tryK_ex0, nox_rt, nox_nx, Bool.true_or, Bool.or_true, Bool.false_or, Bool.or_false, lenO_l, lenO_t, opIn_lst, opIn_tup, opNin_lst, opNin_tup, opInX_lstF, opLtX_int, opGtX_int, opInX_tupF, opNinX_lstF, opNinX_tupF, opInX_lst, opInX_tup, opNinX_lst, opNinX_tup, eqB_nn, eqB_ns, eqB_sn, eqB_ni, eqB_in, eqB_bb, eqB_tt, eqBL_nn, eqBL_cc, eqBL_nc, eqBL_cn, eqB_nt, eqB_tn, opEq_tt, opNe_tt, opNe_xn, opNe_nx, opNe_nnon, str_beq, eqB_ss, eqB_ii, List.any_cons, List.any_nil, gSumD_eq, gAnyD_eq, anyF_nil, anyPut_some, absO_int, intO_int, intO_bl, fldO_eq, opIx_t, opIx_l,
  Bool.true_and, Bool.and_true, Bool.false_and, Bool.and_false, List.map_cons, List.map_nil, List.length_cons, List.length_nil, List.set_cons_zero, List.set_cons_succ, List.getElem?_cons_zero, List.getElem?_cons_succ, Option.map_some, Option.bind_some, decide_eq_true_eq, Bool.not_eq_true', decide_eq_false_iff_not, Bool.not_true, Bool.false_eq_true, reduceCtorEq, Bool.not_false, ite_true, ite_false, if_true, if_false, Nat.reduceAdd, Nat.reduceLeDiff, Nat.reduceLT, Nat.reduceSub, beq_self_eq_true, Nat.reduceEqDiff, reduceIte, Int.reduceToNat, Int.reducePow, List.take_zero, List.take_nil, List.drop_nil, List.drop_zero, List.take_succ_cons, List.drop_succ_cons, forF_nil, padE, List.length_append, List.replicate, List.append_nil, List.cons_append, List.nil_append])
abbrev cloL : List D := [.clo 0 [], .clo 1 [], .clo 2 [], .clo 3 [], .clo 4 [], .clo 5 [], .clo 6 [], .clo 7 []]
abbrev eL (n k : Int) : DL.Env := [.no, .v (.han 0), .v (.lst cloL), .v (.int k), .v (.int n), .v dkD, .no]
theorem fb0 (s : DS) (n k : Int) : FB_0 (eL n k) s = .ex 8 [] s := by
  have e := undo_ex s
  unfold FB_0
  simp_arith [e]
theorem fb1 (s : DS) (n k : Int) (h : -1000000000 ≤ n ∧ n ≤ 1000000000) : FB_1 (eL n k) s = .ex 2 [] s := by
  have e := train_ex s n
  unfold FB_1
  simp_arith [e]
theorem fb2 (s : DS) (n k : Int) (h : 1 ≤ n) : FB_2 (eL n k) s = .ex 1 [] s := by
  have e := notched_ex s n h
  unfold FB_2
  simp_arith [e]
theorem fb3 (s : DS) (n k : Int) (h : 1 ≤ n) (h2 : n ≤ 90) : FB_3 (eL n k) s = .ex 7 [.int 0] s := by
  have e := read_ex s n h h2
  have e2 := mul_x h h2
  unfold FB_3
  simp_arith [e, e2]
theorem fb4 (s : DS) (n k : Int) (h : 1 ≤ n) : FB_4 (eL n k) s = .ex 4 [] s := by
  have e := hoist_ok s n h
  have e2 := go_ex s n h
  unfold FB_4
  simp_arith [e, e2]
theorem fb5 (s : DS) (n k : Int) (h : 1 ≤ n) (h2 : n ≤ 90) : FB_5 (eL n k) s = .ex 3 [] s := by
  have e := side_ex s n h h2
  have e2 := mul_x h h2
  unfold FB_5
  simp_arith [e, e2]
theorem fb6 (s : DS) (n k : Int) (h : 1 ≤ n) (h2 : n ≤ 90) : FB_6 (eL n k) s = .ex 5 [] s := by
  have e := row_ok s
  have e1 := next_ex s (xz n)
  have e2 := mul_x h h2
  unfold FB_6
  simp_arith [e, e1, e2]
theorem fb7 (s : DS) (n k : Int) (h : 1 ≤ n) : FB_7 (eL n k) s = .ex 6 [] s := by
  have e := barn_ok s
  have e1 := draw_ex s n h
  unfold FB_7
  simp_arith [e, e1]
abbrev isL (c : Nat) : List D := [.bl (c == 8), .bl (c == 2), .bl (c == 1), .bl (c == 7), .bl (c == 4), .bl (c == 3), .bl (c == 5), .bl (c == 6), .bl true]
theorem gs_ok (c : Nat) (s : DS) : GS_under c (excE 3 1) s = .rt (.lst (isL c)) s := by
  show GS_under c [.no, .v (.clo 0 []), .no] s = _
  unfold GS_under
  simp_arith [true_and]
theorem und_ok {fb fe : DL.Env → DS → DL.R D} {η : DL.Env} {s : DS} {j c : Nat} {p : List D} (he : fe η s = .ok (.clo j []) s) (hj : FBs[j]? = some fb) (hfb : fb η s = .ex c p s) (hc : csE.contains c = true) (hs : noCloL s = true) : undD 3 1 csE FBs GS_under GR_under fe η s = .ok (.lst (isL c)) s := by
  unfold undD
  rw [he]
  show (match FBs[j]? with | some fb => undK 3 1 csE GS_under GR_under (fb η s) | none => .bad) = _
  rw [hj]
  show undK 3 1 csE GS_under GR_under (fb η s) = _
  rw [hfb]
  show (if csE.contains c = true ∧ noCloL s = true then retR (GS_under c (excE 3 1) s) else .bad) = _
  rw [if_pos ⟨hc, hs⟩, gs_ok]
  show (if noClo (D.lst (isL c)) = true ∧ noCloL s = true then DL.R.ok (D.lst (isL c)) s else DL.R.bad) = _
  rw [if_pos ⟨by simp [noClo, noCloL], hs⟩]
theorem ix_at (s : DS) (n k : Int) (m : Nat) (hk : k = m) (hm : m < 8) : bopD opIx (vB 2) (vB 3) (eL n k) s = .ok (.clo m []) s := by
  subst hk
  rcases (by omega : m = 0 ∨ m = 1 ∨ m = 2 ∨ m = 3 ∨ m = 4 ∨ m = 5 ∨ m = 6 ∨ m = 7) with h | h | h | h | h | h | h | h <;> subst h <;> rfl
abbrev wantL (k : Int) : List D := (List.range 8).map fun (j : Nat) => D.bl (decide ((j : Int) = k))
theorem under_k (s : DS) (n k : Int) (hk : 0 ≤ k ∧ k < 8) (h1 : 1 ≤ n) (h2 : n ≤ 90) (hs : noCloL s = true) : undD 3 1 csE FBs GS_under GR_under (bopD opIx (vB 2) (vB 3)) (eL n k) s = .ok (.lst (wantL k ++ [.bl true])) s := by
  rcases (by omega : k = 0 ∨ k = 1 ∨ k = 2 ∨ k = 3 ∨ k = 4 ∨ k = 5 ∨ k = 6 ∨ k = 7) with h | h | h | h | h | h | h | h <;> subst h
  · exact und_ok (ix_at s n 0 0 rfl (by decide)) rfl (fb0 s n 0) rfl hs
  · exact und_ok (ix_at s n 1 1 rfl (by decide)) rfl (fb1 s n 1 (by omega)) rfl hs
  · exact und_ok (ix_at s n 2 2 rfl (by decide)) rfl (fb2 s n 2 h1) rfl hs
  · exact und_ok (ix_at s n 3 3 rfl (by decide)) rfl (fb3 s n 3 h1 h2) rfl hs
  · exact und_ok (ix_at s n 4 4 rfl (by decide)) rfl (fb4 s n 4 h1) rfl hs
  · exact und_ok (ix_at s n 5 5 rfl (by decide)) rfl (fb5 s n 5 h1 h2) rfl hs
  · exact und_ok (ix_at s n 6 6 rfl (by decide)) rfl (fb6 s n 6 h1 h2) rfl hs
  · exact und_ok (ix_at s n 7 7 rfl (by decide)) rfl (fb7 s n 7 h1) rfl hs
theorem wcB_ok {g : DL.Env → DS → F} {η η' : DL.Env} {s s' : DS} (h0 : noCloL s = true) (hm : mask η = η) (e : g η s = .nx η' s') (h1 : noCloL s' = true) (hm' : mask η' = η') : wcB g η s = .nx η' s' := by
  unfold wcB
  rw [if_pos h0, hm, e]
  show (if noCloL s' = true then F.nx (mask η') s' else .bad) = _
  rw [if_pos h1, hm']
theorem noClo_dc (x : Dc) : noCloL [Dc.d x] = true := by simp [noCloL, noClo, Dc.d]
theorem law_body (x : Dc) : ∃ s', turnF (gN 1) L_law_0 (.han 0) E_law_0 [x.d] = .nx E_law_0 s' := by
  obtain ⟨n, x2_1, b_n, e_n⟩ := DR.roll_ex x (90) (by omega)
  obtain ⟨k, x2, b_k, e_k⟩ := DR.roll_ex x2_1 (8) (by omega)
  refine ⟨[x2.d], ?_⟩
  have dk := desk_ok
  unfold turnF L_law_0
  simp only [gN_eq, List.length_cons, List.length_nil, Nat.reduceAdd, Nat.reduceLT, if_true, putK_some]
  refine wcB_ok (noClo_dc x) (by rfl) ?_ (noClo_dc x2) rfl
  unfold S_law_0x_0
  simp_arith [e_n, e_k, dk]
  unfold S_law_0x_1
  simp_arith [e_n, e_k]
  unfold S_law_0x_2
  simp_arith [e_n, e_k]
  have ub := under_k [x2.d] (1 + n) k b_k (by omega) (by omega) (noClo_dc x2)
  unfold S_law_0x_3 S_law_0x_3a_0
  simp_arith [e_n, e_k, ub]
  rw [DR.lcrm_ (fun i hi => ⟨_, rfl, by (
    show _ = DL.R.ok (D.bl (decide ((i : Int) = k))) _
    simp_arith [e_n, e_k]; try rfl)⟩)]
  simp_arith [e_n, e_k]
  have ne : opNe (D.lst (wantL k ++ [D.bl true])) (D.lst (List.map (fun (i : Nat) => D.bl (decide ((i : Int) = k))) (List.range 8) ++ [D.bl true])) = some (.bl false) := opNe_self (by rfl)
  simp_arith [e_n, e_k, ne]
theorem law_holds : ∀ ns : List Int, ns.length ≤ 63 → ∃ s, m_law [.scr ns] [] = .ok (.bl true) s := law_of law_body
end L21
theorem PySem.Challenge.cw_millhall_k21_refusals_apart_holds : PySem.Challenge.rw_millhall_k21_refusals_apart.Holds :=
  L21.holds_of L21.law_holds
