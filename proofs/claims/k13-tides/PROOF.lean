import PyProof.Rows.All
import Wide.All
import OpenK.AllK
import Wide.FinOn
import HandS.Base
import HandS.Call
import HandS.List
import HandS.Comp
import HandS.Dict
import HandS.Iter
import HandS.Text
import HandS.Exc
import HandS.ExcOwn
import HandS.TryOnly
import HandS.TryMany
import HandS.Lambda
import HandS.EndTab
import HandS.Words
import HandS.WordsList
import HandS.WordsDict
import HandS.WordsExc
import HandS.Conv
import HandS.Zip
import HandS.TupAny
import HandS.Deep
import HandS.Wide
import KE.DataMinMax
import HandS.Style
import HandS.Flow
import HandS.Head0
import HandS.Head1
import HandS.Head2
import HandS.HeadEnd
import HandS.HeadHook1
import HandS.HeadHook2
import HandS.HeadHook3
import HandS.HeadHook4
import HandS.HeadWalk
import HandS.NestedK
import HandS.GenOver
import PyProof.ConsumeS
import PyProof.SeqWrite
import PyProof.MaxThree
import PySem.Challenge.RW_millhall_k13_tides
set_option Elab.async false
set_option linter.all false
set_option maxRecDepth 100000
set_option maxHeartbeats 2000000
namespace DL
open PySem PySem.Spec PyProof.Rows L2

/-! ### plain data -/
inductive D where
  | non | bl (b : Bool) | int (i : Int) | str (s : Str) | tup (l : List D) | lst (l : List D) | dic (l : List (D × D)) | obj (c : Nat) (fs : List D) | han (k : Nat) | scr (l : List Int)

/-- what a name is to the proof: nothing, a value that stays, an object of its own -/
inductive Sl where
  | no | v (d : D) | o (d : D)
abbrev Env := List Sl
abbrev DS := List D

inductive R (α : Type) where
  | ok (a : α) (s : DS) | ex (c : Nat) (p : List D) (s : DS) | bad

@[reducible] def R.bind {α β : Type} (r : R α) (k : α → DS → R β) : R β := match r with
  | .ok a s => k a s
  | .ex c p s => .ex c p s
  | .bad => .bad
def R.ofO {α : Type} (o : Option α) (s : DS) : R α := match o with
  | some a => .ok a s
  | none => .bad

/-- where the program's classes, errors and tables stand -/
structure Mp where
  cls : Nat → Addr
  flds : Nat → List Str
  exc : Nat → Addr
  row : Str
  tabs : List (Addr × Str)

def keyD : Key → D
  | .inl i => .int i
  | .inr s => .str s

mutual
def Rep (K : PySem.W.Frag) (M : Mp) (G : Hp) (hs : List Addr) : D → V → Prop
  | .non, v => v = .non
  | .bl b, v => v = .bl b
  | .int i, v => v = .int i
  | .str s, v => v = .str s
  | .tup ds, v => ∃ a vs, v = .ref a ∧ SqT K G a vs ∧ RepL K M G hs ds vs
  | .lst ds, v => ∃ a vs, v = .ref a ∧ G a = some (.lst vs) ∧ RepL K M G hs ds vs
  | .dic kvs, v => ∃ a, v = .ref a ∧ ((∃ l, Rd G a (.dK l) ∧ RepD K M G hs kvs l) ∨ (∃ l, Rd G a (.dT l) ∧ RepT K M G hs kvs l))
  | .obj c ds, v => ∃ a dx fs, v = .ref a ∧ G a = some (.ins (M.cls c) dx fs) ∧ fs.map (·.1) = M.flds c ∧ RepL K M G hs ds (fs.map (·.2))
  | .han k, v => ∃ a, v = .ref a ∧ hs[k]? = some a
  | .scr l, v => ∃ a, v = .ref a ∧ SqL K G a (l.map V.int)
def RepL (K : PySem.W.Frag) (M : Mp) (G : Hp) (hs : List Addr) : List D → List V → Prop
  | [], vs => vs = []
  | d :: ds, vs => ∃ v vr, vs = v :: vr ∧ Rep K M G hs d v ∧ RepL K M G hs ds vr
def RepD (K : PySem.W.Frag) (M : Mp) (G : Hp) (hs : List Addr) : List (D × D) → List (Key × V) → Prop
  | [], vs => vs = []
  | (k, d) :: ds, vs => ∃ k' v vr, vs = (k', v) :: vr ∧ keyD k' = k ∧ Rep K M G hs d v ∧ RepD K M G hs ds vr
def RepT (K : PySem.W.Frag) (M : Mp) (G : Hp) (hs : List Addr) : List (D × D) → List (List Key × V) → Prop
  | [], vs => vs = []
  | (k, d) :: ds, vs => ∃ k' v vr, vs = (k', v) :: vr ∧ D.tup (k'.map keyD) = k ∧ Rep K M G hs d v ∧ RepT K M G hs ds vr
end

/-! ### the relation grows with the heap -/
theorem same_seqT {K : PySem.W.Frag} {H H' : Hp} {a : Addr} {xs : List V} (e : Same H H') (h : SqT K H a xs) : SqT K H' a xs := by
  rcases h with (h | ⟨o, h⟩) | h
  · exact .inl (.inl (e _ _ h))
  · exact .inl (.inr ⟨o, e _ _ h⟩)
  · exact .inr h
theorem same_rd {H H' : Hp} {a : Addr} {u : HO} (e : Same H H') (h : Rd H a u) : Rd H' a u := by
  rcases h with h | ⟨o, h⟩
  · exact .inl (e _ _ h)
  · exact .inr ⟨o, e _ _ h⟩
section
variable {K : PySem.W.Frag} {M : Mp} {G G' : Hp} {hs hs' : List Addr}
/-- the first handles are the same -/
def Pre (hs hs' : List Addr) : Prop := ∀ (k : Nat) (a : Addr), hs[k]? = some a → hs'[k]? = some a
theorem Pre.refl (hs : List Addr) : Pre hs hs := fun _ _ h => h
theorem Pre.trans {a b c : List Addr} (h : Pre a b) (g : Pre b c) : Pre a c := fun k x e => g k x (h k x e)
theorem Pre.snoc (hs : List Addr) (a : Addr) : Pre hs (hs ++ [a]) := fun k x e => by
  have hl : k < hs.length := (List.getElem?_eq_some_iff.mp e).1
  rw [List.getElem?_append_left hl]
  exact e

mutual
theorem Rep.mono (e : Same G G') (p : Pre hs hs') : ∀ (d : D) (v : V), Rep K M G hs d v → Rep K M G' hs' d v
  | .non, _, h => by unfold Rep at h ⊢; exact h
  | .bl b, _, h => by unfold Rep at h ⊢; exact h
  | .int i, _, h => by unfold Rep at h ⊢; exact h
  | .str s, _, h => by unfold Rep at h ⊢; exact h
  | .tup ds, _, h => by
    unfold Rep at h ⊢
    obtain ⟨a, vs, h1, h2, h3⟩ := h
    exact ⟨a, vs, h1, same_seqT e h2, RepL.mono e p ds vs h3⟩
  | .lst ds, _, h => by
    unfold Rep at h ⊢
    obtain ⟨a, vs, h1, h2, h3⟩ := h
    exact ⟨a, vs, h1, e _ _ h2, RepL.mono e p ds vs h3⟩
  | .dic kvs, _, h => by
    unfold Rep at h ⊢
    obtain ⟨a, h1, ⟨l, h2, h3⟩ | ⟨l, h2, h3⟩⟩ := h
    · exact ⟨a, h1, .inl ⟨l, same_rd e h2, RepD.mono e p kvs l h3⟩⟩
    · exact ⟨a, h1, .inr ⟨l, same_rd e h2, RepT.mono e p kvs l h3⟩⟩
  | .obj c ds, _, h => by
    unfold Rep at h ⊢
    obtain ⟨a, dx, fs, h1, h2, h3, h4⟩ := h
    exact ⟨a, dx, fs, h1, e _ _ h2, h3, RepL.mono e p ds _ h4⟩
  | .han k, _, h => by
    unfold Rep at h ⊢
    obtain ⟨a, h1, h2⟩ := h
    exact ⟨a, h1, p _ _ h2⟩
  | .scr l, _, h => by
    unfold Rep at h ⊢
    obtain ⟨a, h1, h2⟩ := h
    exact ⟨a, h1, e.seq h2⟩
theorem RepL.mono (e : Same G G') (p : Pre hs hs') : ∀ (ds : List D) (vs : List V), RepL K M G hs ds vs → RepL K M G' hs' ds vs
  | [], _, h => by unfold RepL at h ⊢; exact h
  | d :: ds, _, h => by
    unfold RepL at h ⊢
    obtain ⟨v, vr, h1, h2, h3⟩ := h
    exact ⟨v, vr, h1, Rep.mono e p d v h2, RepL.mono e p ds vr h3⟩
theorem RepD.mono (e : Same G G') (p : Pre hs hs') : ∀ (ds : List (D × D)) (vs : List (Key × V)), RepD K M G hs ds vs → RepD K M G' hs' ds vs
  | [], _, h => by unfold RepD at h ⊢; exact h
  | (k, d) :: ds, _, h => by
    unfold RepD at h ⊢
    obtain ⟨k', v, vr, h1, h0, h2, h3⟩ := h
    exact ⟨k', v, vr, h1, h0, Rep.mono e p d v h2, RepD.mono e p ds vr h3⟩
theorem RepT.mono (e : Same G G') (p : Pre hs hs') : ∀ (ds : List (D × D)) (vs : List (List Key × V)), RepT K M G hs ds vs → RepT K M G' hs' ds vs
  | [], _, h => by unfold RepT at h ⊢; exact h
  | (k, d) :: ds, _, h => by
    unfold RepT at h ⊢
    obtain ⟨k', v, vr, h1, h0, h2, h3⟩ := h
    exact ⟨k', v, vr, h1, h0, Rep.mono e p d v h2, RepT.mono e p ds vr h3⟩
end
theorem rep_non {v : V} : Rep K M G hs .non v ↔ v = .non := by unfold Rep; rfl
theorem rep_bl {b : Bool} {v : V} : Rep K M G hs (.bl b) v ↔ v = .bl b := by unfold Rep; rfl
theorem rep_int {i : Int} {v : V} : Rep K M G hs (.int i) v ↔ v = .int i := by unfold Rep; rfl
theorem rep_str {i : Str} {v : V} : Rep K M G hs (.str i) v ↔ v = .str i := by unfold Rep; rfl
theorem rep_tup {ds : List D} {v : V} : Rep K M G hs (.tup ds) v ↔ ∃ a vs, v = .ref a ∧ SqT K G a vs ∧ RepL K M G hs ds vs := by unfold Rep; rfl
theorem rep_lst {ds : List D} {v : V} : Rep K M G hs (.lst ds) v ↔ ∃ a vs, v = .ref a ∧ G a = some (.lst vs) ∧ RepL K M G hs ds vs := by unfold Rep; rfl
theorem rep_obj {c : Nat} {ds : List D} {v : V} : Rep K M G hs (.obj c ds) v ↔ ∃ a dx fs, v = .ref a ∧ G a = some (.ins (M.cls c) dx fs) ∧ fs.map (·.1) = M.flds c ∧ RepL K M G hs ds (fs.map (·.2)) := by unfold Rep; rfl
theorem rep_han {k : Nat} {v : V} : Rep K M G hs (.han k) v ↔ ∃ a, v = .ref a ∧ hs[k]? = some a := by unfold Rep; rfl
theorem rep_scr {l : List Int} {v : V} : Rep K M G hs (.scr l) v ↔ ∃ a, v = .ref a ∧ SqL K G a (l.map V.int) := by unfold Rep; rfl
theorem repL_nil {vs : List V} : RepL K M G hs [] vs ↔ vs = [] := by unfold RepL; rfl
theorem repL_cons {d : D} {ds : List D} {vs : List V} : RepL K M G hs (d :: ds) vs ↔ ∃ v vr, vs = v :: vr ∧ Rep K M G hs d v ∧ RepL K M G hs ds vr := by
  constructor
  · intro h; unfold RepL at h; exact h
  · intro h; unfold RepL; exact h
theorem RepL.length : ∀ {ds : List D} {vs : List V}, RepL K M G hs ds vs → ds.length = vs.length
  | [], vs, h => by rw [repL_nil] at h; subst h; rfl
  | d :: ds, vs, h => by
    rw [repL_cons] at h
    obtain ⟨v, vr, rfl, _, h3⟩ := h
    simp [RepL.length h3]
theorem RepL.append : ∀ {ds es : List D} {vs ws : List V}, RepL K M G hs ds vs → RepL K M G hs es ws → RepL K M G hs (ds ++ es) (vs ++ ws)
  | [], _, vs, _, h, g => by rw [repL_nil] at h; subst h; exact g
  | d :: ds, _, vs, _, h, g => by
    rw [repL_cons] at h
    obtain ⟨v, vr, rfl, h2, h3⟩ := h
    rw [List.cons_append, List.cons_append, repL_cons]
    exact ⟨v, _, rfl, h2, RepL.append h3 g⟩
theorem RepL.get : ∀ {ds : List D} {vs : List V} {i : Nat} {d : D}, RepL K M G hs ds vs → ds[i]? = some d → ∃ v, vs[i]? = some v ∧ Rep K M G hs d v
  | [], _, _, _, _, e => by simp at e
  | x :: ds, vs, 0, d, h, e => by
    rw [repL_cons] at h
    obtain ⟨v, vr, rfl, h2, h3⟩ := h
    simp at e
    subst e
    exact ⟨v, rfl, h2⟩
  | x :: ds, vs, i + 1, d, h, e => by
    rw [repL_cons] at h
    obtain ⟨v, vr, rfl, h2, h3⟩ := h
    obtain ⟨w, h4, h5⟩ := RepL.get (i := i) h3 (by simpa using e)
    exact ⟨w, by simpa using h4, h5⟩
theorem RepL.get' {ds : List D} {vs : List V} {i : Nat} {v : V} (h : RepL K M G hs ds vs) (e : vs[i]? = some v) : ∃ d, ds[i]? = some d ∧ Rep K M G hs d v := by
  have hl := h.length
  have hi : i < ds.length := by rw [hl]; exact (List.getElem?_eq_some_iff.mp e).1
  have e1 : ds[i]? = some ds[i] := List.getElem?_eq_getElem hi
  obtain ⟨w, h1, h2⟩ := h.get e1
  rw [e] at h1
  cases h1
  exact ⟨_, e1, h2⟩
theorem RepL.set : ∀ {ds : List D} {vs : List V} {d : D} {v : V} (i : Nat), RepL K M G hs ds vs → Rep K M G hs d v → RepL K M G hs (ds.set i d) (vs.set i v)
  | [], vs, _, _, _, h, _ => by rw [repL_nil] at h; subst h; simp [repL_nil]
  | x :: ds, vs, d, v, 0, h, g => by
    rw [repL_cons] at h
    obtain ⟨w, vr, rfl, h2, h3⟩ := h
    rw [List.set_cons_zero, List.set_cons_zero, repL_cons]
    exact ⟨_, _, rfl, g, h3⟩
  | x :: ds, vs, d, v, i + 1, h, g => by
    rw [repL_cons] at h
    obtain ⟨w, vr, rfl, h2, h3⟩ := h
    rw [List.set_cons_succ, List.set_cons_succ, repL_cons]
    exact ⟨_, _, rfl, h2, RepL.set i h3 g⟩
theorem RepL.take : ∀ {ds : List D} {vs : List V} (n : Nat), RepL K M G hs ds vs → RepL K M G hs (ds.take n) (vs.take n)
  | ds, vs, 0, _ => by simp [repL_nil]
  | [], vs, n + 1, h => by rw [repL_nil] at h; subst h; simp [repL_nil]
  | x :: ds, vs, n + 1, h => by
    rw [repL_cons] at h
    obtain ⟨w, vr, rfl, h2, h3⟩ := h
    rw [List.take_succ_cons, List.take_succ_cons, repL_cons]
    exact ⟨_, _, rfl, h2, RepL.take n h3⟩
theorem RepL.drop : ∀ {ds : List D} {vs : List V} (n : Nat), RepL K M G hs ds vs → RepL K M G hs (ds.drop n) (vs.drop n)
  | ds, vs, 0, h => by simpa using h
  | [], vs, n + 1, h => by rw [repL_nil] at h; subst h; simp [repL_nil]
  | x :: ds, vs, n + 1, h => by
    rw [repL_cons] at h
    obtain ⟨w, vr, rfl, h2, h3⟩ := h
    rw [List.drop_succ_cons, List.drop_succ_cons]
    exact RepL.drop n h3
theorem RepL.ints : ∀ {ns : List Int} {vs : List V}, RepL K M G hs (ns.map D.int) vs ↔ vs = ns.map V.int
  | [], vs => by simp [repL_nil]
  | n :: ns, vs => by
    rw [List.map_cons, repL_cons, List.map_cons]
    constructor
    · rintro ⟨v, vr, rfl, h2, h3⟩
      rw [rep_int] at h2
      rw [RepL.ints] at h3
      rw [h2, h3]
    · rintro rfl
      exact ⟨_, _, rfl, rep_int.mpr rfl, RepL.ints.mpr rfl⟩
end

/-! ### the state -/
/-- what stands at a handle, or at a name that owns its object -/
def At (K : PySem.W.Frag) (M : Mp) (G : Hp) (hs : List Addr) (H : Hp) (a : Addr) : D → Prop
  | .lst ds => ∃ vs, H a = some (.lst vs) ∧ RepL K M G hs ds vs
  | .dic kvs => (∃ l, H a = some (.dK l) ∧ RepD K M G hs kvs l) ∨ (∃ l, H a = some (.dT l) ∧ RepT K M G hs kvs l)
  | .obj c ds => ∃ dx fs, H a = some (.ins (M.cls c) dx fs) ∧ fs.map (·.1) = (M.flds c).take ds.length ∧ RepL K M G hs ds (fs.map (·.2))
  | _ => False
theorem At.mono {K : PySem.W.Frag} {M : Mp} {G G' H H' : Hp} {hs hs' : List Addr} {a : Addr} (e : Same G G') (p : Pre hs hs') (h : H' a = H a) : ∀ {d : D}, At K M G hs H a d → At K M G' hs' H' a d
  | .lst ds, ⟨vs, h1, h2⟩ => ⟨vs, by rw [h]; exact h1, h2.mono e p⟩
  | .dic kvs, .inl ⟨vs, h1, h2⟩ => .inl ⟨vs, by rw [h]; exact h1, h2.mono e p⟩
  | .dic kvs, .inr ⟨vs, h1, h2⟩ => .inr ⟨vs, by rw [h]; exact h1, h2.mono e p⟩
  | .obj c ds, ⟨dx, fs, h1, h2, h3⟩ => ⟨dx, fs, by rw [h]; exact h1, h2, h3.mono e p⟩
theorem At.some {K : PySem.W.Frag} {M : Mp} {G H : Hp} {hs : List Addr} {a : Addr} : ∀ {d : D}, At K M G hs H a d → ∃ o, H a = Option.some o ∧ ∀ ps, o ≠ .tbl ps
  | .lst ds, ⟨vs, h1, h2⟩ => ⟨_, h1, fun _ z => by cases z⟩
  | .dic kvs, .inl ⟨vs, h1, h2⟩ => ⟨_, h1, fun _ z => by cases z⟩
  | .dic kvs, .inr ⟨vs, h1, h2⟩ => ⟨_, h1, fun _ z => by cases z⟩
  | .obj c ds, ⟨dx, fs, h1, h2, h3⟩ => ⟨_, h1, fun _ z => by cases z⟩

theorem at_no {K : PySem.W.Frag} {M : Mp} {G H : Hp} {hs : List Addr} {a : Addr} {d : D} {o : HO} (h : At K M G hs H a d) (e : H a = some o) : ∀ ps, o ≠ .tbl ps := by
  obtain ⟨u, e1, n⟩ := At.some h
  rw [e] at e1
  cases e1
  exact n
structure Sim (K : PySem.W.Frag) (M : Mp) (G : Hp) (hs : List Addr) (s : DS) (H : Hp) : Prop where
  sub : Same G H
  len : hs.length = s.length
  nd : hs.Nodup
  hG : ∀ a ∈ hs, G a = none
  han : ∀ (k : Nat) (a : Addr) (d : D), hs[k]? = some a → s[k]? = some d → At K M G hs H a d
  tab : LamX.Tabs M.tabs H
  tG : ∀ a o, G a = some o → ∀ ps, o ≠ .tbl ps
def inTab (M : Mp) (a : Addr) : Prop := ∃ p ∈ M.tabs, p.1 = a
/-- nothing but a table may stand there -/
def Nt (H : Hp) (a : Addr) : Prop := ∀ o, H a = some o → ∃ ps, o = HO.tbl ps
theorem nt_none {H : Hp} {a : Addr} (h : H a = none) : Nt H a := fun o e => by rw [h] at e; cases e
theorem Nt.no {H : Hp} {a : Addr} {o : HO} (h : Nt H a) (e : H a = some o) (n : ∀ ps, o ≠ .tbl ps) : False := by
  obtain ⟨ps, z⟩ := h o e
  exact n ps z
/-- what a run may do to the heaps -/
structure Stp (M : Mp) (G : Hp) (hs : List Addr) (H : Hp) (G' : Hp) (hs' : List Addr) (H' : Hp) : Prop where
  gg : Same G G'
  fr : ∀ a o, G' a = some o → G a = some o ∨ Nt H a
  hp : Pre hs hs'
  hf : ∀ a ∈ hs', a ∈ hs ∨ Nt H a
  kp : ∀ a o, H a = some o → a ∉ hs → (∀ ps, o ≠ .tbl ps) → H' a = some o
  dm : ∀ a, Nt H' a → Nt H a
theorem Stp.refl (M : Mp) (G : Hp) (hs : List Addr) (H : Hp) : Stp M G hs H G hs H :=
  ⟨fun _ _ h => h, fun _ _ h => .inl h, Pre.refl _, fun _ h => .inl h, fun _ _ h _ _ => h, fun _ h => h⟩
theorem Stp.trans {M : Mp} {G G1 G2 H H1 H2 : Hp} {hs hs1 hs2 : List Addr} (a : Stp M G hs H G1 hs1 H1) (b : Stp M G1 hs1 H1 G2 hs2 H2) : Stp M G hs H G2 hs2 H2 where
  gg := a.gg.trans b.gg
  fr := fun x o h => by
    rcases b.fr x o h with z | z
    · exact a.fr x o z
    · exact .inr (a.dm x z)
  hp := a.hp.trans b.hp
  hf := fun x h => by
    rcases b.hf x h with z | z
    · exact a.hf x z
    · exact .inr (a.dm x z)
  kp := fun x o h n t => b.kp x o (a.kp x o h n t) (fun z => by
    rcases a.hf x z with q | q
    · exact n q
    · exact q.no h t) t
  dm := fun x h => a.dm x (b.dm x h)

section
variable {K : PySem.W.Frag} {M : Mp} {G G' H H' : Hp} {hs hs' : List Addr} {s s' : DS}
theorem Sim.hanAt (S : Sim K M G hs s H) {a : Addr} (h : a ∈ hs) : ∃ (k : Nat) (d : D), hs[k]? = some a ∧ s[k]? = some d ∧ At K M G hs H a d := by
  obtain ⟨k, hk, e⟩ := List.getElem_of_mem h
  have hk2 : k < s.length := by rw [← S.len]; exact hk
  have e1 : hs[k]? = some a := by rw [List.getElem?_eq_getElem hk, e]
  have e2 : s[k]? = some s[k] := List.getElem?_eq_getElem hk2
  exact ⟨k, _, e1, e2, S.han k a _ e1 e2⟩
theorem Sim.hanS (S : Sim K M G hs s H) {a : Addr} (h : a ∈ hs) : ∃ o, H a = some o ∧ ∀ ps, o ≠ .tbl ps := by
  obtain ⟨k, d, _, _, h3⟩ := S.hanAt h
  exact h3.some
theorem Sim.tabS (S : Sim K M G hs s H) {a : Addr} (h : inTab M a) : ∃ ps, H a = some (.tbl ps) := by
  obtain ⟨p, hp, e⟩ := h
  obtain ⟨ps, h1, _⟩ := S.tab p hp
  rw [← e]
  exact ⟨ps, h1⟩
theorem Sim.free (S : Sim K M G hs s H) {p : Addr} (h : H p = none) : G p = none ∧ p ∉ hs ∧ ¬ inTab M p := by
  refine ⟨S.sub.free h, fun z => ?_, fun z => ?_⟩
  · obtain ⟨o, e, _⟩ := S.hanS z
    rw [h] at e; cases e
  · obtain ⟨ps, e⟩ := S.tabS z
    rw [h] at e; cases e
theorem same_upd {G : Hp} {p : Addr} {o : HO} (h : G p = none) : Same G (upd G p o) := fun b u e => by
  rw [upd_ne (ne_of_none e h)]
  exact e
/-- an object that no one tracks is laid -/
theorem Sim.extH (S : Sim K M G hs s H) (k : ∀ a o, H a = some o → H' a = some o) : Sim K M G hs s H' where
  sub := fun a o e => k a o (S.sub a o e)
  len := S.len
  nd := S.nd
  hG := S.hG
  han := fun i a d e1 e2 => (S.han i a d e1 e2).mono (fun _ _ h => h) (Pre.refl _) (by
    obtain ⟨o, e, _⟩ := (S.han i a d e1 e2).some
    rw [e, k a o e])
  tab := S.tab.ext k
  tG := S.tG
theorem Stp.extH (k : ∀ a o, H a = some o → H' a = some o) : Stp M G hs H G hs H' :=
  ⟨fun _ _ h => h, fun _ _ h => .inl h, Pre.refl _, fun _ h => .inl h, fun a o h _ _ => k a o h, fun a h o q => h o (k a o q)⟩
/-- what stands in H already is from now on still -/
theorem Sim.still (S : Sim K M G hs s H) {p : Addr} {o : HO} (e : H p = some o) (n : p ∉ hs) (t : ¬ inTab M p) (g : G p = none) (no : ∀ ps, o ≠ .tbl ps) : Sim K M (upd G p o) hs s H where
  sub := fun a u q => by
    by_cases z : a = p
    · subst z; rw [upd_same] at q; cases q; exact e
    · rw [upd_ne z] at q; exact S.sub a u q
  len := S.len
  nd := S.nd
  hG := fun a h => by
    have na : a ≠ p := fun z => n (by rw [← z]; exact h)
    rw [upd_ne na]
    exact S.hG a h
  han := fun i a d e1 e2 => (S.han i a d e1 e2).mono (same_upd g) (Pre.refl _) rfl
  tab := S.tab
  tG := fun a u e => by
    by_cases z : a = p
    · subst z; rw [upd_same] at e; cases e; exact no
    · rw [upd_ne z] at e; exact S.tG a u e
/-- a new thing is laid -/
theorem Sim.laid (S : Sim K M G hs s H) {p : Addr} {o : HO} (h : H p = none) (no : ∀ ps, o ≠ .tbl ps := by intro ps z; cases z) : Stp M G hs H (upd G p o) hs (upd H p o) ∧ Sim K M (upd G p o) hs s (upd H p o) := by
  obtain ⟨f1, f2, f3⟩ := S.free h
  have k : ∀ a u, H a = some u → upd H p o a = some u := fun a u e => by rw [upd_ne (ne_of_none e h)]; exact e
  refine ⟨⟨same_upd f1, fun a u e => ?_, Pre.refl _, fun _ h => .inl h, fun a u e _ _ => k a u e, fun a e => ?_⟩, (S.extH k).still upd_same f2 f3 f1 no⟩
  · by_cases z : a = p
    · subst z; exact .inr (nt_none h)
    · rw [upd_ne z] at e; exact .inl e
  · by_cases z : a = p
    · subst z; exact nt_none h
    · exact fun o q => e o (by rw [upd_ne z]; exact q)
end

/-! ### the names -/
structure Anc where
  G : Hp
  hs : List Addr
  H : Hp
  slf : Option Addr
structure Sm (K : PySem.W.Frag) (M : Mp) (A : Anc) (σ : L2.St) (H G : Hp) (hs : List Addr) (own : Nat → Addr) (η : Env) (s : DS) : Prop where
  sim : Sim K M G hs s H
  stp : Stp M A.G A.hs A.H G hs H
  pl : ∀ (i : Nat) (d : D), η[i]? = some (.v d) → ∃ v, σ[i]? = some (some v) ∧ Rep K M G hs d v
  ow : ∀ (i : Nat) (d : D), η[i]? = some (.o d) → σ[i]? = some (some (.ref (own i))) ∧ At K M G hs H (own i) d ∧ G (own i) = none ∧ own i ∉ hs ∧ ¬ inTab M (own i) ∧ Nt A.H (own i)
  inj : ∀ (i j : Nat) (d e : D), η[i]? = some (.o d) → η[j]? = some (.o e) → own i = own j → i = j
  el : η.length = σ.length
  sf : ∀ (x : Addr) (d : D), A.slf = some x → η[0]? = some (.o d) → own 0 = x
section
variable {K : PySem.W.Frag} {M : Mp} {A : Anc} {σ : L2.St} {H H' G G' : Hp} {hs hs' : List Addr} {own : Nat → Addr} {η : Env} {s s' : DS}
theorem Stp.keepAt (S : Stp M G hs H G' hs' H') {a : Addr} {d : D} (h : At K M G hs H a d) (n : a ∉ hs) (t : ¬ inTab M a) : At K M G' hs' H' a d :=
  h.mono S.gg S.hp (by
    obtain ⟨o, e, no⟩ := h.some
    rw [e, S.kp a o e n no])
theorem Stp.away (S : Stp M G hs H G' hs' H') {a : Addr} {o : HO} (e : H a = some o) (n : a ∉ hs) (g : G a = none) (no : ∀ ps, o ≠ .tbl ps) : G' a = none ∧ a ∉ hs' := by
  constructor
  · cases q : G' a with
    | none => rfl
    | some u =>
      rcases S.fr a u q with z | z
      · rw [g] at z; cases z
      · exact (z.no e no).elim
  · intro h
    rcases S.hf a h with z | z
    · exact n z
    · exact z.no e no
theorem Sm.step (I : Sm K M A σ H G hs own η s) (S : Stp M G hs H G' hs' H') (S' : Sim K M G' hs' s' H') : Sm K M A σ H' G' hs' own η s' where
  sim := S'
  stp := I.stp.trans S
  pl := fun i d e => by
    obtain ⟨v, h1, h2⟩ := I.pl i d e
    exact ⟨v, h1, h2.mono S.gg S.hp⟩
  ow := fun i d e => by
    obtain ⟨h1, h2, h3, h4, h5, h6⟩ := I.ow i d e
    obtain ⟨o, e1, no⟩ := h2.some
    obtain ⟨a1, a2⟩ := S.away e1 h4 h3 no
    exact ⟨h1, S.keepAt h2 h4 h5, a1, a2, h5, h6⟩
  inj := I.inj
  el := I.el
  sf := I.sf
end

/-- an error: its class, what it bears -/
def ExR (K : PySem.W.Frag) (M : Mp) (G : Hp) (hs : List Addr) (H : Hp) (c : Nat) (p : List D) (cls : Value) (dx : Option Addr) : Prop :=
  cls = .ref (M.exc c) ∧ ((p = [] ∧ dx = none) ∨ ∃ d v dd, p = [d] ∧ Rep K M G hs d v ∧ dx = some dd ∧ H dd = some (.xd [(M.row, v)]))
def RPost {α : Type} (K : PySem.W.Frag) (M : Mp) (σ : L2.St) (W : WX) (G : Hp) (hs : List Addr) (H : Hp) (r : R α) (k : α → Hp → List Addr → DS → Hp → Prop) : Prop :=
  match r with
  | .ok a s' => ∀ G' hs' H', Stp M G hs H G' hs' H' → Sim K M G' hs' s' H' → k a G' hs' s' H'
  | .ex c p s' => ∀ G' hs' H' cls dx, Stp M G hs H G' hs' H' → Sim K M G' hs' s' H' → ExR K M G' hs' H' c p cls dx → W cls dx σ H'
  | .bad => False
section
variable {K : PySem.W.Frag} {M : Mp} {σ : L2.St} {W : WX} {G G' H H' : Hp} {hs hs' : List Addr} {s s' : DS} {α β : Type}
theorem RPost.step {r : R α} {k : α → Hp → List Addr → DS → Hp → Prop} (S : Stp M G hs H G' hs' H') (h : RPost K M σ W G hs H r k) : RPost K M σ W G' hs' H' r k := by
  cases r with
  | ok a s' => exact fun G2 hs2 H2 S2 => h G2 hs2 H2 (S.trans S2)
  | ex c p s' => exact fun G2 hs2 H2 cls dx S2 => h G2 hs2 H2 cls dx (S.trans S2)
  | bad => exact h
theorem RPost.mono {r : R α} {k k' : α → Hp → List Addr → DS → Hp → Prop} (h : RPost K M σ W G hs H r k) (m : ∀ a G' hs' s' H', Stp M G hs H G' hs' H' → Sim K M G' hs' s' H' → k a G' hs' s' H' → k' a G' hs' s' H') : RPost K M σ W G hs H r k' := by
  cases r with
  | ok a s' => exact fun G2 hs2 H2 S2 S3 => m _ _ _ _ _ S2 S3 (h G2 hs2 H2 S2 S3)
  | ex c p s' => exact h
  | bad => exact h
theorem RPost.bind {r : R α} {f : α → DS → R β} {k : β → Hp → List Addr → DS → Hp → Prop} (h : RPost K M σ W G hs H (r.bind f) k) : RPost K M σ W G hs H r (fun a G' hs' s' H' => RPost K M σ W G' hs' H' (f a s') k) := by
  cases r with
  | ok a s' => exact fun G2 hs2 H2 S2 _ => RPost.step S2 h
  | ex c p s' => exact h
  | bad => exact h
theorem RPost.ofO {o : Option α} {k : α → Hp → List Addr → DS → Hp → Prop} (h : RPost K M σ W G hs H (R.ofO o s) k) : ∃ a, o = some a ∧ ∀ G' hs' H', Stp M G hs H G' hs' H' → Sim K M G' hs' s H' → k a G' hs' s H' := by
  cases o with
  | none => exact h.elim
  | some a => exact ⟨a, rfl, h⟩
end

/-- a value that is read here and now -/
def RV (K : PySem.W.Frag) (M : Mp) (G : Hp) (hs : List Addr) (H : Hp) (d : D) (v : V) : Prop := Rep K M G hs d v ∨ ∃ a, v = .ref a ∧ At K M G hs H a d
/-- a value that may be read for a while -/
def BV (K : PySem.W.Frag) (M : Mp) (G : Hp) (hs : List Addr) (H : Hp) (d : D) (v : V) : Prop := Rep K M G hs d v ∨ ∃ a, v = .ref a ∧ At K M G hs H a d ∧ a ∉ hs ∧ ¬ inTab M a ∧ G a = none
theorem BV.step {K : PySem.W.Frag} {M : Mp} {G G' H H' : Hp} {hs hs' : List Addr} {d : D} {v : V} (S : Stp M G hs H G' hs' H') (h : BV K M G hs H d v) : BV K M G' hs' H' d v := by
  rcases h with h | ⟨a, rfl, h1, h2, h3, h4⟩
  · exact .inl (h.mono S.gg S.hp)
  · obtain ⟨o, e1, no⟩ := h1.some
    obtain ⟨a1, a2⟩ := S.away e1 h2 h4 no
    exact .inr ⟨a, rfl, S.keepAt h1 h2 h3, a2, h3, a1⟩
/-- a handle is what stands at it -/
def deref (s : DS) : D → D
  | .han k => s.getD k .non
  | d => d
theorem BV.read {K : PySem.W.Frag} {M : Mp} {G H : Hp} {hs : List Addr} {s : DS} {d : D} {v : V} (S : Sim K M G hs s H) (h : BV K M G hs H d v) : RV K M G hs H (deref s d) v := by
  rcases h with h | ⟨a, rfl, h1, h2, h3, h4⟩
  · cases d with
    | han k =>
      rw [rep_han] at h
      obtain ⟨a, rfl, h1⟩ := h
      have hk : k < s.length := by rw [← S.len]; exact (List.getElem?_eq_some_iff.mp h1).1
      have e2 : s[k]? = some s[k] := List.getElem?_eq_getElem hk
      refine .inr ⟨a, rfl, ?_⟩
      show At K M G hs H a (s.getD k .non)
      rw [List.getD_eq_getElem?_getD, e2]
      exact S.han k a _ h1 e2
    | _ => exact .inl h
  · cases d with
    | han k => exact h1.elim
    | _ => exact .inr ⟨a, rfl, h1⟩
section
variable {K : PySem.W.Frag} {M : Mp} {G H : Hp} {hs : List Addr} {s : DS}
theorem RV.int {i : Int} {v : V} (h : RV K M G hs H (.int i) v) : v = .int i := by
  rcases h with h | ⟨_, _, h⟩
  · exact rep_int.mp h
  · exact h.elim
theorem RV.str {i : Str} {v : V} (h : RV K M G hs H (.str i) v) : v = .str i := by
  rcases h with h | ⟨_, _, h⟩
  · exact rep_str.mp h
  · exact h.elim
theorem RV.bl {i : Bool} {v : V} (h : RV K M G hs H (.bl i) v) : v = .bl i := by
  rcases h with h | ⟨_, _, h⟩
  · exact rep_bl.mp h
  · exact h.elim
theorem RV.non {v : V} (h : RV K M G hs H .non v) : v = .non := by
  rcases h with h | ⟨_, _, h⟩
  · exact rep_non.mp h
  · exact h.elim
theorem RV.tup (S : Sim K M G hs s H) {ds : List D} {v : V} (h : RV K M G hs H (.tup ds) v) : ∃ a vs, v = .ref a ∧ SqT K H a vs ∧ RepL K M G hs ds vs := by
  rcases h with h | ⟨_, _, h⟩
  · obtain ⟨a, vs, h1, h2, h3⟩ := rep_tup.mp h
    exact ⟨a, vs, h1, same_seqT S.sub h2, h3⟩
  · exact h.elim
theorem RV.lst (S : Sim K M G hs s H) {ds : List D} {v : V} (h : RV K M G hs H (.lst ds) v) : ∃ a vs, v = .ref a ∧ H a = some (.lst vs) ∧ RepL K M G hs ds vs := by
  rcases h with h | ⟨a, e, vs, h1, h2⟩
  · obtain ⟨a, vs, h1, h2, h3⟩ := rep_lst.mp h
    exact ⟨a, vs, h1, S.sub _ _ h2, h3⟩
  · exact ⟨a, vs, e, h1, h2⟩
end

/-! ### expressions -/
section
variable (M : Mp) (X : Cx) (W : WX)
abbrev EEx (t : TE) (f : Env → DS → R D) : Prop := ∀ (A : Anc) (σ : L2.St) (H G : Hp) (hs : List Addr) (own : Nat → Addr) (η : Env) (s : DS) (Q : VK), Sm X.K M A σ H G hs own η s →
    RPost X.K M σ W G hs H (f η s) (fun d G' hs' _ H' => ∀ v, Rep X.K M G' hs' d v → Q v H') → t σ H Q
abbrev BEx (t : TE) (f : Env → DS → R D) : Prop := ∀ (A : Anc) (σ : L2.St) (H G : Hp) (hs : List Addr) (own : Nat → Addr) (η : Env) (s : DS) (Q : VK), Sm X.K M A σ H G hs own η s →
    RPost X.K M σ W G hs H (f η s) (fun d G' hs' _ H' => ∀ v, BV X.K M G' hs' H' d v → Q v H') → t σ H Q
abbrev TEx (t : TT) (f : Env → DS → R Bool) : Prop := ∀ (A : Anc) (σ : L2.St) (H G : Hp) (hs : List Addr) (own : Nat → Addr) (η : Env) (s : DS) (Q : Bool → Hp → Prop), Sm X.K M A σ H G hs own η s →
    RPost X.K M σ W G hs H (f η s) (fun b _ _ _ H' => Q b H') → t σ H Q
def BVL (K : PySem.W.Frag) (M : Mp) (G : Hp) (hs : List Addr) (H : Hp) : List D → List V → Prop := Paired (BV K M G hs H)
abbrev AEx (t : TA) (f : Env → DS → R (List D)) : Prop := ∀ (A : Anc) (σ : L2.St) (H G : Hp) (hs : List Addr) (own : Nat → Addr) (η : Env) (s : DS) (Q : List V → Hp → Prop), Sm X.K M A σ H G hs own η s →
    RPost X.K M σ W G hs H (f η s) (fun ds G' hs' _ H' => ∀ vs, RepL X.K M G' hs' ds vs → Q vs H') → t σ H Q
abbrev ABEx (t : TA) (f : Env → DS → R (List D)) : Prop := ∀ (A : Anc) (σ : L2.St) (H G : Hp) (hs : List Addr) (own : Nat → Addr) (η : Env) (s : DS) (Q : List V → Hp → Prop), Sm X.K M A σ H G hs own η s →
    RPost X.K M σ W G hs H (f η s) (fun ds G' hs' _ H' => ∀ vs, BVL X.K M G' hs' H' ds vs → Q vs H') → t σ H Q
structure DE (e : Expr) (f : Env → DS → R D) : Prop where
  ex : ∃ t, PE X e t ∧ EEx M X W t f
structure DB (e : Expr) (f : Env → DS → R D) : Prop where
  ex : ∃ t, PE X e t ∧ BEx M X W t f
structure DT (e : Expr) (f : Env → DS → R Bool) : Prop where
  ex : ∃ t, PT X e t ∧ TEx M X W t f
structure DW (e : Expr) (f : Env → DS → R Bool) : Prop where
  ex : ∃ t, PW X e t ∧ TEx M X W t f
structure DA (es : List Expr) (f : Env → DS → R (List D)) : Prop where
  ex : ∃ t, PA X es t ∧ AEx M X W t f
structure DAB (es : List Expr) (f : Env → DS → R (List D)) : Prop where
  ex : ∃ t, PA X es t ∧ ABEx M X W t f
end
section
variable {M : Mp} {X : Cx} {W : WX}
theorem DE.b {e : Expr} {f : Env → DS → R D} (h : DE M X W e f) : DB M X W e f := by
  obtain ⟨t, p, h⟩ := h.ex
  exact ⟨t, p, fun A σ H G hs own η s Q I r => h A σ H G hs own η s Q I (r.mono fun a G' hs' s' H' _ _ k v q => k v (.inl q))⟩

/-- a constant -/
def cD (d : D) : Env → DS → R D := fun _ s => .ok d s
theorem de_int {i : Int} {j pos} : DE M X W (.Constant (.int i) j pos) (cD (.int i)) := ⟨_, pe_int, fun A σ H G hs own η s Q I r => r G hs H (Stp.refl _ _ _ _) I.sim _ (rep_int.mpr rfl)⟩
theorem de_bl {b : Bool} {j pos} : DE M X W (.Constant (.bool b) j pos) (cD (.bl b)) := ⟨_, pe_bl, fun A σ H G hs own η s Q I r => r G hs H (Stp.refl _ _ _ _) I.sim _ (rep_bl.mpr rfl)⟩
theorem de_non {j pos} : DE M X W (.Constant .none j pos) (cD .non) := ⟨_, pe_non, fun A σ H G hs own η s Q I r => r G hs H (Stp.refl _ _ _ _) I.sim _ (rep_non.mpr rfl)⟩
theorem de_str {x : Str} {j pos} : DE M X W (.Constant (.str x) j pos) (cD (.str x)) := ⟨_, pe_str, fun A σ H G hs own η s Q I r => r G hs H (Stp.refl _ _ _ _) I.sim _ (rep_str.mpr rfl)⟩
/-- a name -/
def vD (i : Nat) : Env → DS → R D := fun η s => match η[i]? with
  | some (.v d) => .ok d s
  | _ => .bad
/-- .. read for a while -/
def vB (i : Nat) : Env → DS → R D := fun η s => match η[i]? with
  | some (.v d) => .ok d s
  | some (.o d) => .ok d s
  | _ => .bad
theorem RPost.var {K : PySem.W.Frag} {σ : L2.St} {G H : Hp} {hs : List Addr} {s : DS} {η : Env} {i : Nat} {k : D → Hp → List Addr → DS → Hp → Prop} (h : RPost K M σ W G hs H (vD i η s) k) : ∃ d, η[i]? = some (.v d) ∧ ∀ G' hs' H', Stp M G hs H G' hs' H' → Sim K M G' hs' s H' → k d G' hs' s H' := by
  unfold vD at h
  split at h
  · exact ⟨_, by assumption, h⟩
  · exact h.elim
theorem RPost.varB {K : PySem.W.Frag} {σ : L2.St} {G H : Hp} {hs : List Addr} {s : DS} {η : Env} {i : Nat} {k : D → Hp → List Addr → DS → Hp → Prop} (h : RPost K M σ W G hs H (vB i η s) k) : ∃ d, (η[i]? = some (.v d) ∨ η[i]? = some (.o d)) ∧ ∀ G' hs' H', Stp M G hs H G' hs' H' → Sim K M G' hs' s H' → k d G' hs' s H' := by
  unfold vB at h
  split at h
  · exact ⟨_, .inl (by assumption), h⟩
  · exact ⟨_, .inr (by assumption), h⟩
  · exact h.elim
theorem Sm.bv {K : PySem.W.Frag} {A : Anc} {σ : L2.St} {H G : Hp} {hs : List Addr} {own : Nat → Addr} {η : Env} {s : DS} {i : Nat} {d : D} (I : Sm K M A σ H G hs own η s) (e : η[i]? = some (.v d) ∨ η[i]? = some (.o d)) : ∃ v, σ[i]? = some (some v) ∧ BV K M G hs H d v := by
  rcases e with e | e
  · obtain ⟨v, h1, h2⟩ := I.pl i d e
    exact ⟨v, h1, .inl h2⟩
  · obtain ⟨h1, h2, h3, h4, h5, h6⟩ := I.ow i d e
    exact ⟨_, h1, .inr ⟨_, rfl, h2, h4, h5, h3⟩⟩
theorem de_v (i : Nat) {x : Str} {pos : Pos} (hN : X.N[i]? = some x := by rfl) (hv : Vis X.env.scope x := by first | exact Or.inl rfl | exact Or.inr (Or.inl rfl) | exact Or.inr (Or.inr rfl)) (hd : (x == ("__debug__" : Str)) = false := by decide)
    (hcd : (x == ("__classdict__" : Str)) = false := by decide) : DE M X W (.Name x pos) (vD i) := by
  refine ⟨_, pe_var hN hv hd hcd, fun A σ H G hs own η s Q I r => ?_⟩
  obtain ⟨d, e, k⟩ := r.var
  obtain ⟨v, h1, h2⟩ := I.pl i d e
  exact ⟨v, h1, k G hs H (Stp.refl _ _ _ _) I.sim v h2⟩
theorem db_v (i : Nat) {x : Str} {pos : Pos} (hN : X.N[i]? = some x := by rfl) (hv : Vis X.env.scope x := by first | exact Or.inl rfl | exact Or.inr (Or.inl rfl) | exact Or.inr (Or.inr rfl)) (hd : (x == ("__debug__" : Str)) = false := by decide)
    (hcd : (x == ("__classdict__" : Str)) = false := by decide) : DB M X W (.Name x pos) (vB i) := by
  refine ⟨_, pe_var hN hv hd hcd, fun A σ H G hs own η s Q I r => ?_⟩
  obtain ⟨d, e, k⟩ := r.varB
  obtain ⟨v, h1, h2⟩ := I.bv e
  exact ⟨v, h1, k G hs H (Stp.refl _ _ _ _) I.sim v h2⟩
end
end DL
set_option Elab.async false
set_option linter.all false
set_option maxRecDepth 100000
set_option maxHeartbeats 2000000
namespace DL
open PySem PySem.Spec PyProof.Rows L2

/-! ### operators -/
section
variable (M : Mp) (X : Cx)
abbrev OEx (r : R2) (o : D → D → Option D) : Prop := ∀ (G : Hp) (hs : List Addr) (s : DS) (H : Hp) (x y z : D) (v u : V) (Q : VK), Sim X.K M G hs s H → RV X.K M G hs H x v → RV X.K M G hs H y u → o x y = some z →
    (∀ G' H', Stp M G hs H G' hs H' → Sim X.K M G' hs s H' → ∀ w, Rep X.K M G' hs z w → Q w H') → r v u H Q
structure OpD (op : Value → Value → Sem Value) (o : D → D → Option D) : Prop where
  ex : ∃ r, OpR X op r ∧ OEx M X r o
structure UnD (op : Value → Sem Value) (o : D → Option D) : Prop where
  ex : ∃ r, UnR X op r ∧ ∀ (G : Hp) (hs : List Addr) (s : DS) (H : Hp) (x z : D) (v : V) (Q : VK), Sim X.K M G hs s H → RV X.K M G hs H x v → o x = some z →
    (∀ G' H', Stp M G hs H G' hs H' → Sim X.K M G' hs s H' → ∀ w, Rep X.K M G' hs z w → Q w H') → r v H Q
end
/-- a op b -/
def bopD (o : D → D → Option D) (fa fb : Env → DS → R D) : Env → DS → R D := fun η s => (fa η s).bind fun x s1 => (fb η s1).bind fun y s2 => R.ofO (o (deref s2 x) (deref s2 y)) s2
def uopD (o : D → Option D) (fa : Env → DS → R D) : Env → DS → R D := fun η s => (fa η s).bind fun x s1 => R.ofO (o (deref s1 x)) s1
def asB : D → Option Bool
  | .bl b => some b
  | _ => none
/-- a value as a test -/
def tstD (fa : Env → DS → R D) : Env → DS → R Bool := fun η s => (fa η s).bind fun x s1 => R.ofO (asB x) s1
theorem asB_some {d : D} {b : Bool} (h : asB d = some b) : d = .bl b := by
  cases d <;> simp_all [asB]
section
variable {M : Mp} {X : Cx} {W : WX} {a b : Expr} {fa fb : Env → DS → R D} {pos : Pos}
theorem bin_run {op : Value → Value → Sem Value} {o : D → D → Option D} {r : R2} {ta tb : TE} {A : Anc} {σ : L2.St} {H G : Hp} {hs : List Addr} {own : Nat → Addr} {η : Env} {s : DS} {Q : VK}
    (hr : OEx M X r o)
    (ha : BEx M X W ta fa)
    (hb : BEx M X W tb fb)
    (I : Sm X.K M A σ H G hs own η s) (hp : RPost X.K M σ W G hs H (bopD o fa fb η s) (fun d G' hs' _ H' => ∀ v, Rep X.K M G' hs' d v → Q v H')) : tOp r ta tb σ H Q := by
  show ta σ H fun x H1 => tb σ H1 fun y H2 => r x y H2 Q
  refine ha A σ H G hs own η s _ I (hp.bind.mono fun x G1 hs1 s1 H1 S1 J1 h1 v hv => ?_)
  refine hb A σ H1 G1 hs1 own η s1 _ (I.step S1 J1) (h1.bind.mono fun y G2 hs2 s2 H2 S2 J2 h2 u hu => ?_)
  obtain ⟨z, e, k⟩ := h2.ofO
  exact hr G2 hs2 s2 H2 _ _ z v u Q J2 ((hv.step S2).read J2) (hu.read J2) e fun G3 H3 S3 J3 w hw => k G3 hs2 H3 S3 J3 w hw
theorem de_bin {op : Operator} {o : D → D → Option D} (ho : OpD M X (binaryOp op) o) (ha : DB M X W a fa) (hb : DB M X W b fb) : DE M X W (.BinOp a op b pos) (bopD o fa fb) := by
  obtain ⟨r, hr, h⟩ := ho.ex
  obtain ⟨ta, pa, ha⟩ := ha.ex
  obtain ⟨tb, pb, hb⟩ := hb.ex
  exact ⟨_, pe_op hr pa pb, fun A σ H G hs own η s Q I hp => bin_run (op := binaryOp op) h ha hb I hp⟩
theorem de_cmp {op : CmpOp} {o : D → D → Option D} (ho : OpD M X (compareOp op) o) (ha : DB M X W a fa) (hb : DB M X W b fb) (hm : behindInMarks op b = false) : DE M X W (.Compare a [op] [b] pos) (bopD o fa fb) := by
  obtain ⟨r, hr, h⟩ := ho.ex
  obtain ⟨ta, pa, ha⟩ := ha.ex
  obtain ⟨tb, pb, hb⟩ := hb.ex
  exact ⟨_, pe_cmpR hr pa pb hm, fun A σ H G hs own η s Q I hp => bin_run (op := compareOp op) h ha hb I hp⟩
theorem tst_run {σ : L2.St} {H G : Hp} {hs : List Addr} {η : Env} {s : DS} {Q : Bool → Hp → Prop} {t : TE} {f : Env → DS → R D}
    (h : ∀ Q, RPost X.K M σ W G hs H (f η s) (fun d G' hs' _ H' => ∀ v, Rep X.K M G' hs' d v → Q v H') → t σ H Q)
    (hp : RPost X.K M σ W G hs H (tstD f η s) (fun b _ _ _ H' => Q b H')) : t σ H fun x H' => ∃ k, x = .bl k ∧ Q k H' := by
  refine h _ (hp.bind.mono fun x G1 hs1 s1 H1 S1 J1 h1 v hv => ?_)
  obtain ⟨b, e, k⟩ := h1.ofO
  rw [asB_some e, rep_bl] at hv
  exact ⟨b, hv, k G1 hs1 H1 (Stp.refl _ _ _ _) J1⟩
theorem dt_cmp {op : CmpOp} {o : D → D → Option D} (ho : OpD M X (compareOp op) o) (ha : DB M X W a fa) (hb : DB M X W b fb) (hm : behindInMarks op b = false) : DT M X W (.Compare a [op] [b] pos) (tstD (bopD o fa fb)) := by
  obtain ⟨r, hr, h⟩ := ho.ex
  obtain ⟨ta, pa, ha⟩ := ha.ex
  obtain ⟨tb, pb, hb⟩ := hb.ex
  exact ⟨_, pt_cmpR hr pa pb hm, fun A σ H G hs own η s Q I hp => tst_run (f := bopD o fa fb) (fun Q hp => bin_run (op := compareOp op) h ha hb I hp) hp⟩
/-- any expression that gives a bool, as a test -/
theorem dt_val {e : Expr} {f : Env → DS → R D} (h : DE M X W e f) (he : ∀ whole, isTrue e X.env whole = (do let v ← whole; standAt e.pos; holding [v] (truthy v)) := by intro _; rfl) : DT M X W e (tstD f) := by
  obtain ⟨t, p, h⟩ := h.ex
  exact ⟨_, pt_val p he, fun A σ H G hs own η s Q I hp => tst_run (fun Q hp => h A σ H G hs own η s Q I hp) hp⟩
theorem de_un {op : UnaryOp} {o : D → Option D} (ho : UnD M X (unaryOp op) o) (ha : DB M X W a fa) (hpe : ∀ {r : V → Hp → VK → Prop} {ta : TE}, UnR X (unaryOp op) r → PE X a ta → PE X (.UnaryOp op a pos) (tUn r ta)) : DE M X W (.UnaryOp op a pos) (uopD o fa) := by
  obtain ⟨r, hr, h⟩ := ho.ex
  obtain ⟨ta, pa, ha⟩ := ha.ex
  refine ⟨_, hpe hr pa, fun A σ H G hs own η s Q I hp => ?_⟩
  show ta σ H fun x H1 => r x H1 Q
  refine ha A σ H G hs own η s _ I (hp.bind.mono fun x G1 hs1 s1 H1 S1 J1 h1 v hv => ?_)
  obtain ⟨z, e, k⟩ := h1.ofO
  exact h G1 hs1 s1 H1 _ z v Q J1 (hv.read J1) e fun G3 H3 S3 J3 w hw => k G3 hs1 H3 S3 J3 w hw

/-! #### a < b < c -/
def chD (o o' : D → D → Option D) (fa fb fc : Env → DS → R D) : Env → DS → R D := fun η s => (fa η s).bind fun x s1 => (fb η s1).bind fun y s2 => (R.ofO (o (deref s2 x) (deref s2 y)) s2).bind fun z s3 =>
  (R.ofO (asB z) s3).bind fun k s3 => if k = true then (fc η s3).bind fun w s4 => R.ofO (o' (deref s4 y) (deref s4 w)) s4 else .ok (.bl false) s3
theorem ch_run {op op' : Value → Value → Sem Value} {o o' : D → D → Option D} {r r' : R2} {ta tb tc : TE} {fc : Env → DS → R D} {A : Anc} {σ : L2.St} {H G : Hp} {hs : List Addr} {own : Nat → Addr} {η : Env} {s : DS} {Q : VK}
    (hr : OEx M X r o)
    (hr' : OEx M X r' o')
    (ha : BEx M X W ta fa)
    (hb : BEx M X W tb fb)
    (hc : BEx M X W tc fc)
    (I : Sm X.K M A σ H G hs own η s) (hp : RPost X.K M σ W G hs H (chD o o' fa fb fc η s) (fun d G' hs' _ H' => ∀ v, Rep X.K M G' hs' d v → Q v H')) : tChain r r' ta tb tc σ H Q := by
  refine ha A σ H G hs own η s _ I (hp.bind.mono fun x G1 hs1 s1 H1 S1 J1 h1 v hv => ?_)
  refine hb A σ H1 G1 hs1 own η s1 _ (I.step S1 J1) (h1.bind.mono fun y G2 hs2 s2 H2 S2 J2 h2 u hu => ?_)
  obtain ⟨z, e, k⟩ := h2.bind.ofO
  refine hr G2 hs2 s2 H2 _ _ z v u _ J2 ((hv.step S2).read J2) (hu.read J2) e fun G3 H3 S3 J3 w hw => ?_
  obtain ⟨kb, e2, k2⟩ := (k G3 hs2 H3 S3 J3).bind.ofO
  rw [asB_some e2, rep_bl] at hw
  have k3 := k2 G3 hs2 H3 (Stp.refl _ _ _ _) J3
  refine ⟨kb, hw, ?_⟩
  cases kb with
  | false =>
    rw [if_neg Bool.false_ne_true]
    rw [if_neg Bool.false_ne_true] at k3
    exact k3 G3 hs2 H3 (Stp.refl _ _ _ _) J3 _ (rep_bl.mpr rfl)
  | true =>
    rw [if_pos rfl]
    rw [if_pos rfl] at k3
    refine hc A σ H3 G3 hs2 own η s2 _ (((I.step S1 J1).step S2 J2).step S3 J3) (k3.bind.mono fun q G4 hs4 s4 H4 S4 J4 h4 w4 hw4 => ?_)
    obtain ⟨z4, e4, k4⟩ := h4.ofO
    exact hr' G4 hs4 s4 H4 _ _ z4 u w4 _ J4 (((hu.step S3).step S4).read J4) (hw4.read J4) e4 fun G5 H5 S5 J5 w hw => k4 G5 hs4 H5 S5 J5 w hw
variable {c : Expr} {fc : Env → DS → R D}
theorem de_ch {op op' : CmpOp} {o o' : D → D → Option D} (ho : OpD M X (compareOp op) o) (ho' : OpD M X (compareOp op') o') (ha : DB M X W a fa) (hb : DB M X W b fb) (hc : DB M X W c fc) (hm : lastMarks [op, op'] [b, c] = false := by with_unfolding_all rfl) :
    DE M X W (.Compare a [op, op'] [b, c] pos) (chD o o' fa fb fc) := by
  obtain ⟨r, hr, h⟩ := ho.ex
  obtain ⟨r', hr', h'⟩ := ho'.ex
  obtain ⟨ta, pa, ha⟩ := ha.ex
  obtain ⟨tb, pb, hb⟩ := hb.ex
  obtain ⟨tc, pc, hc⟩ := hc.ex
  exact ⟨_, pe_chain hr hr' pa pb pc hm, fun A σ H G hs own η s Q I hp => ch_run (op := compareOp op) (op' := compareOp op') h h' ha hb hc I hp⟩
theorem dt_ch {op op' : CmpOp} {o o' : D → D → Option D} (ho : OpD M X (compareOp op) o) (ho' : OpD M X (compareOp op') o') (ha : DB M X W a fa) (hb : DB M X W b fb) (hc : DB M X W c fc) (hm : lastMarks [op, op'] [b, c] = false := by with_unfolding_all rfl) :
    DT M X W (.Compare a [op, op'] [b, c] pos) (tstD (chD o o' fa fb fc)) := by
  obtain ⟨r, hr, h⟩ := ho.ex
  obtain ⟨r', hr', h'⟩ := ho'.ex
  obtain ⟨ta, pa, ha⟩ := ha.ex
  obtain ⟨tb, pb, hb⟩ := hb.ex
  obtain ⟨tc, pc, hc⟩ := hc.ex
  exact ⟨_, pt_chain hr hr' pa pb pc hm, fun A σ H G hs own η s Q I hp => tst_run (f := chD o o' fa fb fc) (fun Q hp => ch_run (op := compareOp op) (op' := compareOp op') h h' ha hb hc I hp) hp⟩

/-! #### and, or, not, if -/
def andT (f g : Env → DS → R Bool) : Env → DS → R Bool := fun η s => (f η s).bind fun b s1 => if b = true then g η s1 else .ok false s1
def orT (f g : Env → DS → R Bool) : Env → DS → R Bool := fun η s => (f η s).bind fun b s1 => if b = true then .ok true s1 else g η s1
def notT (f : Env → DS → R Bool) : Env → DS → R Bool := fun η s => (f η s).bind fun b s1 => .ok (!b) s1
def ifD (c : Env → DS → R Bool) (f g : Env → DS → R D) : Env → DS → R D := fun η s => (c η s).bind fun b s1 => if b = true then f η s1 else g η s1
variable {f g : Env → DS → R Bool} {rest : List Expr}
theorem DW.t {e : Expr} (h : DW M X W e f) : DT M X W e f := by
  obtain ⟨t, p, h⟩ := h.ex
  exact ⟨t, p.pt, h⟩
theorem dw_and1 (h : DT M X W a f) : DW M X W (.BoolOp .And [a] pos) f := by
  obtain ⟨t, p, h⟩ := h.ex
  exact ⟨t, pw_and1 p, h⟩
theorem dw_or1 (h : DT M X W a f) : DW M X W (.BoolOp .Or [a] pos) f := by
  obtain ⟨t, p, h⟩ := h.ex
  exact ⟨t, pw_or1 p, h⟩
theorem dw_and (ha : DT M X W a f) (hb : DW M X W (.BoolOp .And (b :: rest) pos) g) : DW M X W (.BoolOp .And (a :: b :: rest) pos) (andT f g) := by
  obtain ⟨t, p, h⟩ := ha.ex
  obtain ⟨u, q, k⟩ := hb.ex
  refine ⟨_, pw_and p q, fun A σ H G hs own η s Q I hp => ?_⟩
  refine h A σ H G hs own η s _ I (hp.bind.mono fun x G1 hs1 s1 H1 S1 J1 h1 => ?_)
  cases x with
  | true =>
    rw [if_pos rfl] at h1 ⊢
    exact k A σ H1 G1 hs1 own η s1 _ (I.step S1 J1) h1
  | false =>
    rw [if_neg Bool.false_ne_true] at h1 ⊢
    exact h1 G1 hs1 H1 (Stp.refl _ _ _ _) J1
theorem dw_or (ha : DT M X W a f) (hb : DW M X W (.BoolOp .Or (b :: rest) pos) g) : DW M X W (.BoolOp .Or (a :: b :: rest) pos) (orT f g) := by
  obtain ⟨t, p, h⟩ := ha.ex
  obtain ⟨u, q, k⟩ := hb.ex
  refine ⟨_, pw_or p q, fun A σ H G hs own η s Q I hp => ?_⟩
  refine h A σ H G hs own η s _ I (hp.bind.mono fun x G1 hs1 s1 H1 S1 J1 h1 => ?_)
  cases x with
  | false =>
    rw [if_neg Bool.false_ne_true] at h1 ⊢
    exact k A σ H1 G1 hs1 own η s1 _ (I.step S1 J1) h1
  | true =>
    rw [if_pos rfl] at h1 ⊢
    exact h1 G1 hs1 H1 (Stp.refl _ _ _ _) J1
theorem dt_not (ha : DT M X W a f) : DT M X W (.UnaryOp .Not a pos) (notT f) := by
  obtain ⟨t, p, h⟩ := ha.ex
  refine ⟨_, pt_not p, fun A σ H G hs own η s Q I hp => ?_⟩
  exact h A σ H G hs own η s _ I (hp.bind.mono fun x G1 hs1 s1 H1 S1 J1 h1 => h1 G1 hs1 H1 (Stp.refl _ _ _ _) J1)
theorem de_if (hc : DT M X W c f) (ha : DE M X W a fa) (hb : DE M X W b fb) : DE M X W (.IfExp c a b pos) (ifD f fa fb) := by
  obtain ⟨t, p, h⟩ := hc.ex
  obtain ⟨ta, pa, ha⟩ := ha.ex
  obtain ⟨tb, pb, hb⟩ := hb.ex
  refine ⟨_, pe_ifExp p pa pb, fun A σ H G hs own η s Q I hp => ?_⟩
  refine h A σ H G hs own η s _ I (hp.bind.mono fun x G1 hs1 s1 H1 S1 J1 h1 => ?_)
  cases x with
  | false =>
    rw [if_neg Bool.false_ne_true] at h1 ⊢
    exact hb A σ H1 G1 hs1 own η s1 _ (I.step S1 J1) h1
  | true =>
    rw [if_pos rfl] at h1 ⊢
    exact ha A σ H1 G1 hs1 own η s1 _ (I.step S1 J1) h1
theorem db_if (hc : DT M X W c f) (ha : DB M X W a fa) (hb : DB M X W b fb) : DB M X W (.IfExp c a b pos) (ifD f fa fb) := by
  obtain ⟨t, p, h⟩ := hc.ex
  obtain ⟨ta, pa, ha⟩ := ha.ex
  obtain ⟨tb, pb, hb⟩ := hb.ex
  refine ⟨_, pe_ifExp p pa pb, fun A σ H G hs own η s Q I hp => ?_⟩
  refine h A σ H G hs own η s _ I (hp.bind.mono fun x G1 hs1 s1 H1 S1 J1 h1 => ?_)
  cases x with
  | false =>
    rw [if_neg Bool.false_ne_true] at h1 ⊢
    exact hb A σ H1 G1 hs1 own η s1 _ (I.step S1 J1) h1
  | true =>
    rw [if_pos rfl] at h1 ⊢
    exact ha A σ H1 G1 hs1 own η s1 _ (I.step S1 J1) h1
/-- and, or, not as values (bools) -/
def andD (fa fb : Env → DS → R D) : Env → DS → R D := fun η s => (tstD fa η s).bind fun b s1 => if b = true then fb η s1 else .ok (.bl false) s1
def orD (fa fb : Env → DS → R D) : Env → DS → R D := fun η s => (tstD fa η s).bind fun b s1 => if b = true then .ok (.bl true) s1 else fb η s1
def notD (fa : Env → DS → R D) : Env → DS → R D := fun η s => (tstD fa η s).bind fun b s1 => .ok (.bl (!b)) s1
theorem de_one {op} (h : DE M X W a fa) : DE M X W (.BoolOp op [a] pos) fa := by
  obtain ⟨t, p, h⟩ := h.ex
  exact ⟨t, pe_one p, h⟩
theorem de_and (ha : DE M X W a fa) (hb : DE M X W (.BoolOp .And (b :: rest) pos) fb) : DE M X W (.BoolOp .And (a :: b :: rest) pos) (andD fa fb) := by
  obtain ⟨t, p, h⟩ := ha.ex
  obtain ⟨u, q, k⟩ := hb.ex
  refine ⟨_, pe_and p q, fun A σ H G hs own η s Q I hp => ?_⟩
  refine h A σ H G hs own η s _ I (hp.bind.bind.mono fun x G1 hs1 s1 H1 S1 J1 h1 v hv => ?_)
  obtain ⟨b, e, k1⟩ := h1.ofO
  rw [asB_some e, rep_bl] at hv
  have k2 := k1 G1 hs1 H1 (Stp.refl _ _ _ _) J1
  refine ⟨b, hv, ?_⟩
  cases b with
  | true =>
    rw [if_pos rfl] at k2 ⊢
    exact k A σ H1 G1 hs1 own η s1 _ (I.step S1 J1) k2
  | false =>
    rw [if_neg Bool.false_ne_true] at k2 ⊢
    exact k2 G1 hs1 H1 (Stp.refl _ _ _ _) J1 _ (rep_bl.mpr rfl)
theorem de_or (ha : DE M X W a fa) (hb : DE M X W (.BoolOp .Or (b :: rest) pos) fb) : DE M X W (.BoolOp .Or (a :: b :: rest) pos) (orD fa fb) := by
  obtain ⟨t, p, h⟩ := ha.ex
  obtain ⟨u, q, k⟩ := hb.ex
  refine ⟨_, pe_or p q, fun A σ H G hs own η s Q I hp => ?_⟩
  refine h A σ H G hs own η s _ I (hp.bind.bind.mono fun x G1 hs1 s1 H1 S1 J1 h1 v hv => ?_)
  obtain ⟨b, e, k1⟩ := h1.ofO
  rw [asB_some e, rep_bl] at hv
  have k2 := k1 G1 hs1 H1 (Stp.refl _ _ _ _) J1
  refine ⟨b, hv, ?_⟩
  cases b with
  | false =>
    rw [if_neg Bool.false_ne_true] at k2 ⊢
    exact k A σ H1 G1 hs1 own η s1 _ (I.step S1 J1) k2
  | true =>
    rw [if_pos rfl] at k2 ⊢
    exact k2 G1 hs1 H1 (Stp.refl _ _ _ _) J1 _ (rep_bl.mpr rfl)
theorem de_not (ha : DE M X W a fa) : DE M X W (.UnaryOp .Not a pos) (notD fa) := by
  obtain ⟨t, p, h⟩ := ha.ex
  refine ⟨_, pe_not p, fun A σ H G hs own η s Q I hp => ?_⟩
  refine h A σ H G hs own η s _ I (hp.bind.bind.mono fun x G1 hs1 s1 H1 S1 J1 h1 v hv => ?_)
  obtain ⟨b, e, k1⟩ := h1.ofO
  rw [asB_some e, rep_bl] at hv
  exact ⟨b, hv, k1 G1 hs1 H1 (Stp.refl _ _ _ _) J1 G1 hs1 H1 (Stp.refl _ _ _ _) J1 _ (rep_bl.mpr rfl)⟩
end
end DL
set_option Elab.async false
set_option linter.all false
set_option maxRecDepth 100000
set_option maxHeartbeats 2000000
namespace DL
open PySem PySem.Spec PyProof.Rows L2

theorem line_ : (sizeLine : Nat) = 16777216 := sizeLine_eq
def opAdd : D → D → Option D
  | .int a, .int b => some (.int (a + b))
  | .str a, .str b => if a.length + b.length ≤ 16777216 then some (.str (a ++ b)) else none
  | .lst a, .lst b => if a.length + b.length ≤ 16777216 then some (.lst (a ++ b)) else none
  | .tup a, .tup b => if a.length + b.length ≤ 16777216 then some (.tup (a ++ b)) else none
  | _, _ => none
def opSub : D → D → Option D
  | .int a, .int b => some (.int (a - b))
  | _, _ => none
/-- decided by no reckoning: the kernel does not look in -/
noncomputable def cl (p : Prop) : Bool := @decide p (Classical.propDecidable p)
theorem cl_iff {p : Prop} : cl p = true ↔ p := by
  unfold cl
  exact @decide_eq_true_iff p (Classical.propDecidable p)
theorem cl_yes {p : Prop} (h : p) : cl p = true := cl_iff.mpr h
noncomputable def small64 (a : Int) : Bool := cl (-18446744073709551616 < a ∧ a < 18446744073709551616)
noncomputable def opMul : D → D → Option D
  | .int a, .int b => if (small64 a || small64 b) = true then some (.int (a * b)) else none
  | .lst a, .int b => if cl (-1000000 ≤ b ∧ b ≤ 1000000 ∧ a.length * b.toNat ≤ 16777216) = true then some (.lst (List.replicate b.toNat a).flatten) else none
  | _, _ => none
noncomputable def opDiv : D → D → Option D
  | .int a, .int b => if cl (0 < b ∧ b < 18446744073709551616) = true then some (.int (a / b)) else none
  | _, _ => none
def opMod : D → D → Option D
  | .int a, .int b => if 0 < b then some (.int (a % b)) else none
  | _, _ => none
noncomputable def opPow : D → D → Option D
  | .int a, .int b => if cl (0 ≤ b ∧ b ≤ 1000 ∧ -1000000 ≤ a ∧ a ≤ 1000000) = true then some (.int (a ^ b.toNat)) else none
  | _, _ => none
def opNeg : D → Option D
  | .int a => some (.int (-a))
  | _ => none
def strLt (a b : Str) : Bool := decide (a.cps.toList < b.cps.toList)
def opLt : D → D → Option D
  | .int a, .int b => some (.bl (decide (a < b)))
  | .str a, .str b => some (.bl (strLt a b))
  | _, _ => none
def opLe : D → D → Option D
  | .int a, .int b => some (.bl (decide (a ≤ b)))
  | _, _ => none
def opGt : D → D → Option D
  | .int a, .int b => some (.bl (decide (b < a)))
  | .str a, .str b => some (.bl (strLt b a))
  | _, _ => none
def opGe : D → D → Option D
  | .int a, .int b => some (.bl (decide (b ≤ a)))
  | _, _ => none
section
variable {M : Mp} {X : Cx}
theorem Stp.new {K : PySem.W.Frag} {G H : Hp} {hs : List Addr} {s : DS} {p : Addr} {o : HO} {k : Hp → Hp → Prop} (J : Sim K M G hs s H) (h : H p = none) (no : ∀ ps, o ≠ .tbl ps) (q : ∀ G' H', Stp M G hs H G' hs H' → Sim K M G' hs s H' → k G' H') : k (upd G p o) (upd H p o) :=
  q _ _ (J.laid h no).1 (J.laid h no).2
theorem repL_up {K : PySem.W.Frag} {G : Hp} {hs : List Addr} {p : Addr} {o : HO} {ds : List D} {vs : List V} (g : G p = none) (r : RepL K M G hs ds vs) : RepL K M (upd G p o) hs ds vs := r.mono (same_upd g) (Pre.refl _)
theorem rep_newL {K : PySem.W.Frag} {G : Hp} {hs : List Addr} {p : Addr} {ds : List D} {vs : List V} (g : G p = none) (r : RepL K M G hs ds vs) : Rep K M (upd G p (.lst vs)) hs (.lst ds) (.ref p) := rep_lst.mpr ⟨p, vs, rfl, upd_same, repL_up g r⟩
theorem rep_newT {K : PySem.W.Frag} {G : Hp} {hs : List Addr} {p : Addr} {ds : List D} {vs : List V} (g : G p = none) (r : RepL K M G hs ds vs) : Rep K M (upd G p (.tup vs)) hs (.tup ds) (.ref p) := rep_tup.mpr ⟨p, vs, rfl, SqT.of upd_same, repL_up g r⟩
theorem od_add : OpD M X (binaryOp .Add) opAdd := by
  refine ⟨_, (op_add.or op_add_str).or (op_cat.or op_catA), fun G hs s H x y z v u Q J hx hy e k => ?_⟩
  unfold opAdd at e
  split at e
  · cases e
    exact .inl (.inl ⟨_, _, hx.int, hy.int, k G H (Stp.refl _ _ _ _) J _ (rep_int.mpr rfl)⟩)
  · rename_i a b
    split at e
    · rename_i hl
      cases e
      exact .inl (.inr ⟨_, _, hx.str, hy.str, by rw [line_]; exact hl, k G H (Stp.refl _ _ _ _) J _ (rep_str.mpr rfl)⟩)
    · cases e
  · rename_i a b
    split at e
    · rename_i hl
      cases e
      obtain ⟨l, vs, rfl, h1, r1⟩ := hx.lst J
      obtain ⟨l', vs', rfl, h1', r1'⟩ := hy.lst J
      refine .inr (.inl ⟨l, l', vs, vs', rfl, rfl, h1, h1', by rw [line_, ← r1.length, ← r1'.length]; exact hl, fun p hp => ?_⟩)
      exact k _ _ (J.laid hp).1 (J.laid hp).2 _ (rep_newL (J.free hp).1 (r1.append r1'))
    · cases e
  · rename_i a b
    split at e
    · rename_i hl
      cases e
      obtain ⟨l, vs, rfl, h1, r1⟩ := hx.tup J
      obtain ⟨l', vs', rfl, h1', r1'⟩ := hy.tup J
      refine .inr (.inr ⟨l, l', vs, vs', rfl, rfl, h1, h1', by rw [line_, ← r1.length, ← r1'.length]; exact hl, fun z => ?_, fun _ z => ?_, fun _ _ p hp => ?_⟩)
      · have ez : a = [] := by
          have := r1.length
          rw [z] at this
          exact List.length_eq_zero_iff.mp this
        subst ez
        have hy' : Rep X.K M G hs (.tup b) (.ref l') := by
          rcases hy with hy | ⟨_, _, hy⟩
          · exact hy
          · exact hy.elim
        exact k G H (Stp.refl _ _ _ _) J _ hy'
      · have ez : b = [] := by
          have := r1'.length
          rw [z] at this
          exact List.length_eq_zero_iff.mp this
        subst ez
        have hx' : Rep X.K M G hs (.tup a) (.ref l) := by
          rcases hx with hx | ⟨_, _, hx⟩
          · exact hx
          · exact hx.elim
        rw [List.append_nil] at k
        exact k G H (Stp.refl _ _ _ _) J _ hx'
      · exact k _ _ (J.laid hp).1 (J.laid hp).2 _ (rep_newT (J.free hp).1 (r1.append r1'))
    · cases e
  · cases e
theorem od_sub : OpD M X (binaryOp .Sub) opSub := by
  refine ⟨_, op_sub, fun G hs s H x y z v u Q J hx hy e k => ?_⟩
  unfold opSub at e
  split at e
  · cases e
    exact ⟨_, _, hx.int, hy.int, k G H (Stp.refl _ _ _ _) J _ (rep_int.mpr rfl)⟩
  · cases e
theorem od_mul : OpD M X (binaryOp .Mult) opMul := by
  refine ⟨_, op_mul.or op_rep, fun G hs s H x y z v u Q J hx hy e k => ?_⟩
  unfold opMul at e
  split at e
  · rename_i a b
    split at e
    · rename_i hl
      cases e
      refine .inl ⟨_, _, hx.int, hy.int, ?_, k G H (Stp.refl _ _ _ _) J _ (rep_int.mpr rfl)⟩
      have p : (2 : Int) ^ 64 = 18446744073709551616 := by decide
      unfold CMul
      rw [p]
      simpa [small64, Bool.or_eq_true, cl_iff] using hl
    · cases e
  · rename_i a b
    split at e
    · rename_i hl
      have hl := cl_iff.mp hl
      cases e
      obtain ⟨l, vs, rfl, h1, r1⟩ := hx.lst J
      refine .inr ⟨l, b, vs, rfl, hy.int, h1, by omega, by omega, by rw [line_, ← r1.length]; exact hl.2.2, fun p hp => ?_⟩
      refine k _ _ (J.laid hp).1 (J.laid hp).2 _ (rep_newL (J.free hp).1 ?_)
      have rr : ∀ n : Nat, RepL X.K M G hs (List.replicate n a).flatten (List.replicate n vs).flatten := fun n => by
        induction n with
        | zero => exact repL_nil.mpr rfl
        | succ n ih =>
          rw [List.replicate_succ, List.replicate_succ, List.flatten_cons, List.flatten_cons]
          exact r1.append ih
      exact rr _
    · cases e
  · cases e
theorem od_div : OpD M X (binaryOp .FloorDiv) opDiv := by
  refine ⟨_, op_fdivW, fun G hs s H x y z v u Q J hx hy e k => ?_⟩
  unfold opDiv at e
  split at e
  · rename_i a b
    split at e
    · rename_i hl
      have hl := cl_iff.mp hl
      cases e
      refine ⟨_, _, hx.int, hy.int, wide_div (b := 64) hl.1 ?_ (by decide) (by decide), k G H (Stp.refl _ _ _ _) J _ (rep_int.mpr rfl)⟩
      have p : (2 : Nat) ^ 64 = 18446744073709551616 := by decide
      rw [p]
      omega
    · cases e
  · cases e
theorem od_mod : OpD M X (binaryOp .Mod) opMod := by
  refine ⟨_, op_mod, fun G hs s H x y z v u Q J hx hy e k => ?_⟩
  unfold opMod at e
  split at e
  · split at e
    · rename_i hl
      cases e
      exact ⟨_, _, hx.int, hy.int, hl, k G H (Stp.refl _ _ _ _) J _ (rep_int.mpr rfl)⟩
    · cases e
  · cases e
theorem od_pow : OpD M X (binaryOp .Pow) opPow := by
  refine ⟨_, op_pow, fun G hs s H x y z v u Q J hx hy e k => ?_⟩
  unfold opPow at e
  split at e
  · split at e
    · rename_i hl
      have hl := cl_iff.mp hl
      cases e
      refine ⟨_, _, hx.int, hy.int, ⟨hl.1, by omega, ?_⟩, k G H (Stp.refl _ _ _ _) J _ (rep_int.mpr rfl)⟩
      have p : (2 : Nat) ^ 64 = 18446744073709551616 := by decide
      rw [p]
      omega
    · cases e
  · cases e
theorem ud_neg : UnD M X (unaryOp .USub) opNeg := by
  refine ⟨_, un_neg, fun G hs s H x z v Q J hx e k => ?_⟩
  unfold opNeg at e
  split at e
  · cases e
    exact ⟨_, hx.int, k G H (Stp.refl _ _ _ _) J _ (rep_int.mpr rfl)⟩
  · cases e
theorem od_lt : OpD M X (compareOp .Lt) opLt := by
  refine ⟨_, op_lt.or op_lt_str, fun G hs s H x y z v u Q J hx hy e k => ?_⟩
  unfold opLt at e
  split at e
  · cases e
    exact .inl ⟨_, _, hx.int, hy.int, k G H (Stp.refl _ _ _ _) J _ (rep_bl.mpr rfl)⟩
  · cases e
    exact .inr ⟨_, _, hx.str, hy.str, k G H (Stp.refl _ _ _ _) J _ (rep_bl.mpr rfl)⟩
  · cases e
theorem od_le : OpD M X (compareOp .LtE) opLe := by
  refine ⟨_, op_le, fun G hs s H x y z v u Q J hx hy e k => ?_⟩
  unfold opLe at e
  split at e
  · cases e
    exact ⟨_, _, hx.int, hy.int, k G H (Stp.refl _ _ _ _) J _ (rep_bl.mpr rfl)⟩
  · cases e
theorem od_gt : OpD M X (compareOp .Gt) opGt := by
  refine ⟨_, op_gt.or op_gt_str, fun G hs s H x y z v u Q J hx hy e k => ?_⟩
  unfold opGt at e
  split at e
  · cases e
    exact .inl ⟨_, _, hx.int, hy.int, k G H (Stp.refl _ _ _ _) J _ (rep_bl.mpr rfl)⟩
  · cases e
    exact .inr ⟨_, _, hx.str, hy.str, k G H (Stp.refl _ _ _ _) J _ (rep_bl.mpr rfl)⟩
  · cases e
theorem od_ge : OpD M X (compareOp .GtE) opGe := by
  refine ⟨_, op_ge, fun G hs s H x y z v u Q J hx hy e k => ?_⟩
  unfold opGe at e
  split at e
  · cases e
    exact ⟨_, _, hx.int, hy.int, k G H (Stp.refl _ _ _ _) J _ (rep_bl.mpr rfl)⟩
  · cases e

/-! #### == of data -/
mutual
def dOk : D → Bool
  | .non => true
  | .bl _ => true
  | .int _ => true
  | .str x => PyData.strOk x
  | .tup l => dOkL l
  | .lst l => dOkL l
  | .dic _ => false
  | .obj _ _ => false
  | .han _ => false
  | .scr _ => false
def dOkL : List D → Bool
  | [] => true
  | d :: l => dOk d && dOkL l
end
mutual
def dDep : D → Nat
  | .tup l => dDepL l + 1
  | .lst l => dDepL l + 1
  | .non => 0
  | .bl _ => 0
  | .int _ => 0
  | .str _ => 0
  | .dic _ => 0
  | .obj _ _ => 0
  | .han _ => 0
  | .scr _ => 0
def dDepL : List D → Nat
  | [] => 0
  | d :: l => max (dDep d) (dDepL l)
end
mutual
def toPD : D → PyData
  | .non => .none
  | .bl b => .bool b
  | .int i => .int i
  | .str x => .str x
  | .tup l => .tuple (toPDL l)
  | .lst l => .list (toPDL l)
  | .dic _ => .none
  | .obj _ _ => .none
  | .han _ => .none
  | .scr _ => .none
def toPDL : List D → List PyData
  | [] => []
  | d :: l => toPD d :: toPDL l
end
mutual
def eqB : D → D → Bool
  | .non, .non => true
  | .bl a, .bl b => a == b
  | .bl a, .int j => (if a then 1 else 0) == j
  | .int i, .bl b => i == (if b then 1 else 0)
  | .int i, .int j => i == j
  | .str x, .str y => x == y
  | .lst xs, .lst ys => eqBL xs ys
  | .tup xs, .tup ys => eqBL xs ys
  | _, _ => false
def eqBL : List D → List D → Bool
  | [], [] => true
  | x :: xs, y :: ys => eqB x y && eqBL xs ys
  | _, _ => false
end
mutual
theorem eqv_toPD : ∀ (d e : D), dOk d = true → dOk e = true → PyData.eqv (toPD d) (toPD e) = eqB d e
  | .non, e, _, he => by cases e <;> simp_all [toPD, PyData.eqv, eqB, dOk]
  | .bl b, e, _, he => by cases e <;> simp_all [toPD, PyData.eqv, eqB, dOk]
  | .int i, e, _, he => by cases e <;> simp_all [toPD, PyData.eqv, eqB, dOk]
  | .str x, e, _, he => by cases e <;> simp_all [toPD, PyData.eqv, eqB, dOk]
  | .tup l, e, hd, he => by
    cases e with
    | tup l' =>
      have h1 : dOkL l = true := by simpa [dOk] using hd
      have h2 : dOkL l' = true := by simpa [dOk] using he
      simp only [toPD, PyData.eqv, eqB]
      exact eqv_toPDL l l' h1 h2
    | _ => simp_all [toPD, PyData.eqv, eqB, dOk]
  | .lst l, e, hd, he => by
    cases e with
    | lst l' =>
      have h1 : dOkL l = true := by simpa [dOk] using hd
      have h2 : dOkL l' = true := by simpa [dOk] using he
      simp only [toPD, PyData.eqv, eqB]
      exact eqv_toPDL l l' h1 h2
    | _ => simp_all [toPD, PyData.eqv, eqB, dOk]
  | .dic _, _, h, _ => by simp [dOk] at h
  | .obj _ _, _, h, _ => by simp [dOk] at h
  | .han _, _, h, _ => by simp [dOk] at h
  | .scr _, _, h, _ => by simp [dOk] at h
theorem eqv_toPDL : ∀ (d e : List D), dOkL d = true → dOkL e = true → PyData.eqvAll (toPDL d) (toPDL e) = eqBL d e
  | [], e, _, _ => by cases e <;> simp [toPDL, PyData.eqvAll, eqBL]
  | d :: l, [], _, _ => by simp [toPDL, PyData.eqvAll, eqBL]
  | d :: l, e :: l', h, h' => by
    have h1 : dOk d = true ∧ dOkL l = true := by simpa [dOkL] using h
    have h2 : dOk e = true ∧ dOkL l' = true := by simpa [dOkL] using h'
    simp only [toPDL, PyData.eqvAll, eqBL]
    rw [eqv_toPD d e h1.1 h2.1, eqv_toPDL l l' h1.2 h2.2]
end
mutual
theorem lay_toPD : ∀ (d : D), dOk d = true → (toPD d).canLay0 = true ∧ (toPD d).depth = dDep d
  | .non, _ => by simp [toPD, PyData.canLay0, PyData.depth, dDep]
  | .bl b, _ => by simp [toPD, PyData.canLay0, PyData.depth, dDep]
  | .int i, _ => by simp [toPD, PyData.canLay0, PyData.depth, dDep]
  | .str x, h => by
    have h1 : PyData.strOk x = true := by simpa [dOk] using h
    simp [toPD, PyData.canLay0, PyData.depth, dDep, h1]
  | .tup l, h => by
    have h1 : dOkL l = true := by simpa [dOk] using h
    obtain ⟨a, b⟩ := lay_toPDL l h1
    simp [toPD, PyData.canLay0, PyData.depth, dDep, a, b]
  | .lst l, h => by
    have h1 : dOkL l = true := by simpa [dOk] using h
    obtain ⟨a, b⟩ := lay_toPDL l h1
    simp [toPD, PyData.canLay0, PyData.depth, dDep, a, b]
  | .dic _, h => by simp [dOk] at h
  | .obj _ _, h => by simp [dOk] at h
  | .han _, h => by simp [dOk] at h
  | .scr _, h => by simp [dOk] at h
theorem lay_toPDL : ∀ (d : List D), dOkL d = true → PyData.canLayAll0 (toPDL d) = true ∧ PyData.depthAll (toPDL d) = dDepL d
  | [], _ => by simp [toPDL, PyData.canLayAll0, PyData.depthAll, dDepL]
  | d :: l, h => by
    have h1 : dOk d = true ∧ dOkL l = true := by simpa [dOkL] using h
    obtain ⟨a, b⟩ := lay_toPD d h1.1
    obtain ⟨a', b'⟩ := lay_toPDL l h1.2
    simp [toPDL, PyData.canLayAll0, PyData.depthAll, dDepL, a, b, a', b']
end
theorem shaped_toPD {d : D} (h : dOk d = true) (h2 : dDep d ≤ 60) : SeqAt.shaped (toPD d) = true := by
  obtain ⟨a, b⟩ := lay_toPD d h
  unfold SeqAt.shaped
  rw [a, b]
  simp
  omega
mutual
theorem dp_of {K : PySem.W.Frag} {G H : Hp} {hs : List Addr} (e : Same G H) : ∀ (d : D) (v : V), dOk d = true → Rep K M G hs d v → Dp K H v (toPD d)
  | .non, v, _, h => by rw [rep_non] at h; subst h; simp only [toPD]; exact .non
  | .bl b, v, _, h => by rw [rep_bl] at h; subst h; simp only [toPD]; exact .bl b
  | .int i, v, _, h => by rw [rep_int] at h; subst h; simp only [toPD]; exact .int i
  | .str x, v, _, h => by rw [rep_str] at h; subst h; simp only [toPD]; exact .str x
  | .tup l, v, h0, h => by
    obtain ⟨a, vs, rfl, h2, h3⟩ := rep_tup.mp h
    simp only [toPD]
    exact .tup (same_seqT e h2) (dp_ofL e l vs (by simpa [dOk] using h0) h3)
  | .lst l, v, h0, h => by
    obtain ⟨a, vs, rfl, h2, h3⟩ := rep_lst.mp h
    simp only [toPD]
    exact .lst (SqL.of (e _ _ h2)) (dp_ofL e l vs (by simpa [dOk] using h0) h3)
  | .dic _, _, h, _ => by simp [dOk] at h
  | .obj _ _, _, h, _ => by simp [dOk] at h
  | .han _, _, h, _ => by simp [dOk] at h
  | .scr _, _, h, _ => by simp [dOk] at h
theorem dp_ofL {K : PySem.W.Frag} {G H : Hp} {hs : List Addr} (e : Same G H) : ∀ (d : List D) (v : List V), dOkL d = true → RepL K M G hs d v → DpAll K H v (toPDL d)
  | [], v, _, h => by rw [repL_nil] at h; subst h; simp only [toPDL]; exact .nil
  | d :: l, v, h0, h => by
    have h1 : dOk d = true ∧ dOkL l = true := by simpa [dOkL] using h0
    rw [repL_cons] at h
    obtain ⟨w, vr, rfl, h2, h3⟩ := h
    simp only [toPDL]
    exact .cons (dp_of e d w h1.1 h2) (dp_ofL e l vr h1.2 h3)
end
theorem RV.dp {K : PySem.W.Frag} {G H : Hp} {hs : List Addr} {s : DS} (J : Sim K M G hs s H) {d : D} {v : V} (h0 : dOk d = true) (h : RV K M G hs H d v) : Dp K H v (toPD d) := by
  cases d with
  | lst l =>
    obtain ⟨a, vs, rfl, h2, h3⟩ := h.lst J
    simp only [toPD]
    exact .lst (SqL.of h2) (dp_ofL J.sub l vs (by simpa [dOk] using h0) h3)
  | dic _ => simp [dOk] at h0
  | obj _ _ => simp [dOk] at h0
  | han _ => simp [dOk] at h0
  | scr _ => simp [dOk] at h0
  | _ =>
    rcases h with h | ⟨_, _, h⟩
    · exact dp_of J.sub _ v h0 h
    · exact h.elim
def eqOk (x y : D) : Bool := dOk x && dOk y && decide (dDep x ≤ 60) && decide (dDep y ≤ 60)
/-- a row against a text -/
def seqStr : D → D → Bool
  | .tup _, .str _ => true
  | .lst _, .str _ => true
  | .str _, .tup _ => true
  | .str _, .lst _ => true
  | _, _ => false
def opEq (x y : D) : Option D := if eqOk x y = true then some (.bl (eqB x y)) else if seqStr x y = true then some (.bl false) else none
def opNe (x y : D) : Option D := if eqOk x y = true then some (.bl (!eqB x y)) else if seqStr x y = true then some (.bl true) else none
def rSeqStr (K : PySem.W.Frag) (r : Bool) : R2 := fun x y H Q => (∃ a vs z, ((x = .ref a ∧ y = .str z) ∨ (x = .str z ∧ y = .ref a)) ∧ (SqL K H a vs ∨ SqT K H a vs)) ∧ Q (.bl r) H
theorem op_eqSS (hu : X.A.units < cLine) : OpR X (compareOp .Eq) (rSeqStr X.K false) := by
  intro pins s σ H x y v u Q I rx ry h
  obtain ⟨⟨a, vs, z, h, k⟩, q⟩ := h
  have done : EP X pins σ Q (.bool false) s := ⟨.bl false, H, I, rfl, q⟩
  rcases h with ⟨rfl, rfl⟩ | ⟨rfl, rfl⟩
  · cases (show v = Value.ref a from rx)
    obtain ⟨t, rfl⟩ := ry
    rcases k with k | k
    · obtain ⟨its, _, p, _⟩ := I.list k
      exact SeqAt.RcAt.list_str _ _ p.isList hu _ _ _ _ done
    · obtain ⟨its, _, p, _⟩ := I.tuple k
      exact SeqAt.RcAt.tuple_str _ _ p hu _ _ _ _ done
  · cases (show u = Value.ref a from ry)
    obtain ⟨t, rfl⟩ := rx
    rcases k with k | k
    · obtain ⟨its, _, p, _⟩ := I.list k
      exact SeqAt.RcAt.str_list _ _ p.isList hu _ _ _ _ done
    · obtain ⟨its, _, p, _⟩ := I.tuple k
      exact SeqAt.RcAt.str_tuple _ _ p hu _ _ _ _ done
theorem op_neSS (hu : X.A.units < cLine) : OpR X (compareOp .NotEq) (rSeqStr X.K true) := by
  intro pins s σ H x y v u Q I rx ry h
  obtain ⟨⟨a, vs, z, h, k⟩, q⟩ := h
  have done : EP X pins σ Q (.bool true) s := ⟨.bl true, H, I, rfl, q⟩
  rcases h with ⟨rfl, rfl⟩ | ⟨rfl, rfl⟩
  · cases (show v = Value.ref a from rx)
    obtain ⟨t, rfl⟩ := ry
    rcases k with k | k
    · obtain ⟨its, _, p, _⟩ := I.list k
      exact SeqAt.RcNeAt.list_str _ _ p.isList hu _ _ _ _ done
    · obtain ⟨its, _, p, _⟩ := I.tuple k
      exact SeqAt.RcNeAt.tuple_str _ _ p hu _ _ _ _ done
  · cases (show u = Value.ref a from ry)
    obtain ⟨t, rfl⟩ := rx
    rcases k with k | k
    · obtain ⟨its, _, p, _⟩ := I.list k
      exact SeqAt.RcNeAt.str_list _ _ p.isList hu _ _ _ _ done
    · obtain ⟨its, _, p, _⟩ := I.tuple k
      exact SeqAt.RcNeAt.str_tuple _ _ p hu _ _ _ _ done
theorem seqStr_run {G H : Hp} {hs : List Addr} {s : DS} {x y : D} {v u : V} {r : Bool} {Q : VK} (J : Sim X.K M G hs s H) (hx : RV X.K M G hs H x v) (hy : RV X.K M G hs H y u) (h : seqStr x y = true) (q : Q (.bl r) H) : rSeqStr X.K r v u H Q := by
  refine ⟨?_, q⟩
  cases x <;> cases y <;> first | exact absurd h Bool.false_ne_true | skip
  · cases hx.str
    obtain ⟨a, vs, rfl, h1, _⟩ := hy.tup J
    exact ⟨a, vs, _, .inr ⟨rfl, rfl⟩, .inr h1⟩
  · cases hx.str
    obtain ⟨a, vs, rfl, h1, _⟩ := hy.lst J
    exact ⟨a, vs, _, .inr ⟨rfl, rfl⟩, .inl (.inl (.inl h1))⟩
  · cases hy.str
    obtain ⟨a, vs, rfl, h1, _⟩ := hx.tup J
    exact ⟨a, vs, _, .inl ⟨rfl, rfl⟩, .inr h1⟩
  · cases hy.str
    obtain ⟨a, vs, rfl, h1, _⟩ := hx.lst J
    exact ⟨a, vs, _, .inl ⟨rfl, rfl⟩, .inl (.inl (.inl h1))⟩
theorem eqOk_of {x y : D} (h : eqOk x y = true) : dOk x = true ∧ dOk y = true ∧ dDep x ≤ 60 ∧ dDep y ≤ 60 := by
  unfold eqOk at h
  simp only [Bool.and_eq_true, decide_eq_true_eq] at h
  exact ⟨h.1.1.1, h.1.1.2, h.1.2, h.2⟩
theorem od_eq (hu : X.A.units + 64 < cLine) : OpD M X (compareOp .Eq) opEq := by
  refine ⟨_, (op_eqD hu).or (op_eqSS (by omega)), fun G hs s H x y z v u Q J hx hy e k => ?_⟩
  unfold opEq at e
  split at e
  · rename_i h
    cases e
    obtain ⟨h1, h2, h3, h4⟩ := eqOk_of h
    refine .inl ⟨_, _, hx.dp J h1, hy.dp J h2, shaped_toPD h1 h3, shaped_toPD h2 h4, ?_⟩
    rw [eqv_toPD x y h1 h2]
    exact k G H (Stp.refl _ _ _ _) J _ (rep_bl.mpr rfl)
  · split at e
    · rename_i h
      cases e
      exact .inr (seqStr_run J hx hy h (k G H (Stp.refl _ _ _ _) J _ (rep_bl.mpr rfl)))
    · cases e
theorem od_ne (hu : X.A.units + 64 < cLine) : OpD M X (compareOp .NotEq) opNe := by
  refine ⟨_, (op_neD hu).or (op_neSS (by omega)), fun G hs s H x y z v u Q J hx hy e k => ?_⟩
  unfold opNe at e
  split at e
  · rename_i h
    cases e
    obtain ⟨h1, h2, h3, h4⟩ := eqOk_of h
    refine .inl ⟨_, _, hx.dp J h1, hy.dp J h2, shaped_toPD h1 h3, shaped_toPD h2 h4, ?_⟩
    rw [eqv_toPD x y h1 h2]
    exact k G H (Stp.refl _ _ _ _) J _ (rep_bl.mpr rfl)
  · split at e
    · rename_i h
      cases e
      exact .inr (seqStr_run J hx hy h (k G H (Stp.refl _ _ _ _) J _ (rep_bl.mpr rfl)))
    · cases e
end
end DL
set_option Elab.async false
set_option linter.all false
set_option maxRecDepth 100000
set_option maxHeartbeats 2000000
namespace DL
open PySem PySem.Spec PyProof.Rows L2

/-! ### argument lists -/
def nilA : Env → DS → R (List D) := fun _ s => .ok [] s
def consA (f : Env → DS → R D) (g : Env → DS → R (List D)) : Env → DS → R (List D) := fun η s => (f η s).bind fun d s1 => (g η s1).bind fun ds s2 => .ok (d :: ds) s2
section
variable {M : Mp} {X : Cx} {W : WX} {e a b : Expr} {es : List Expr} {f fa fb : Env → DS → R D} {g : Env → DS → R (List D)} {pos : Pos}
theorem da_nil : DA M X W [] nilA := ⟨_, pa_nil, fun A σ H G hs own η s Q I r => r G hs H (Stp.refl _ _ _ _) I.sim _ (repL_nil.mpr rfl)⟩
theorem da_cons (ha : DE M X W e f) (hr : DA M X W es g) (hs : starEach (e :: es) X.env = (false, eval e X.env) :: starEach es X.env := by rfl) : DA M X W (e :: es) (consA f g) := by
  obtain ⟨t, p, h⟩ := ha.ex
  obtain ⟨u, q, k⟩ := hr.ex
  refine ⟨_, pa_cons p q hs, fun A σ H G hs own η s Q I hp => ?_⟩
  refine h A σ H G hs own η s _ I (hp.bind.mono fun x G1 hs1 s1 H1 S1 J1 h1 v hv => ?_)
  refine k A σ H1 G1 hs1 own η s1 _ (I.step S1 J1) (h1.bind.mono fun xs G2 hs2 s2 H2 S2 J2 h2 vs hvs => ?_)
  exact h2 G2 hs2 H2 (Stp.refl _ _ _ _) J2 _ (repL_cons.mpr ⟨v, vs, rfl, hv.mono S2.gg S2.hp, hvs⟩)
theorem dab_nil : DAB M X W [] nilA := ⟨_, pa_nil, fun A σ H G hs own η s Q I r => r G hs H (Stp.refl _ _ _ _) I.sim _ Paired.nil⟩
theorem BVL.step {K : PySem.W.Frag} {G G' H H' : Hp} {hs hs' : List Addr} {ds : List D} {vs : List V} (S : Stp M G hs H G' hs' H') (h : BVL K M G hs H ds vs) : BVL K M G' hs' H' ds vs := Paired.mapP h fun _ _ z => z.step S
theorem dab_cons (ha : DB M X W e f) (hr : DAB M X W es g) (hs : starEach (e :: es) X.env = (false, eval e X.env) :: starEach es X.env := by rfl) : DAB M X W (e :: es) (consA f g) := by
  obtain ⟨t, p, h⟩ := ha.ex
  obtain ⟨u, q, k⟩ := hr.ex
  refine ⟨_, pa_cons p q hs, fun A σ H G hs own η s Q I hp => ?_⟩
  refine h A σ H G hs own η s _ I (hp.bind.mono fun x G1 hs1 s1 H1 S1 J1 h1 v hv => ?_)
  refine k A σ H1 G1 hs1 own η s1 _ (I.step S1 J1) (h1.bind.mono fun xs G2 hs2 s2 H2 S2 J2 h2 vs hvs => ?_)
  exact h2 G2 hs2 H2 (Stp.refl _ _ _ _) J2 _ (Paired.cons (hv.step S2) hvs)

/-! ### tuples, lists -/
def tupD (g : Env → DS → R (List D)) : Env → DS → R D := fun η s => (g η s).bind fun ds s1 => if ds.length ≤ 16777216 then .ok (.tup ds) s1 else .bad
def lstD (g : Env → DS → R (List D)) : Env → DS → R D := fun η s => (g η s).bind fun ds s1 => if ds.length ≤ 16777216 then .ok (.lst ds) s1 else .bad
theorem de_tup {x1} (h : DA M X W es g) : DE M X W (.Tuple es x1 pos) (tupD g) := by
  obtain ⟨t, p, h⟩ := h.ex
  refine ⟨_, pe_tup p, fun A σ H G hs own η s Q I hp => ?_⟩
  refine h A σ H G hs own η s _ I (hp.bind.mono fun ds G1 hs1 s1 H1 S1 J1 h1 vs hvs => ?_)
  split at h1
  · rename_i hl
    refine ⟨by rw [line_, ← hvs.length]; exact hl, fun p hp => ?_⟩
    exact h1 _ _ _ (J1.laid hp).1 (J1.laid hp).2 _ (rep_newT (J1.free hp).1 hvs)
  · exact h1.elim
theorem de_lst (h : DA M X W es g) : DE M X W (.List es pos) (lstD g) := by
  obtain ⟨t, p, h⟩ := h.ex
  refine ⟨_, pe_lst p, fun A σ H G hs own η s Q I hp => ?_⟩
  refine h A σ H G hs own η s _ I (hp.bind.mono fun ds G1 hs1 s1 H1 S1 J1 h1 vs hvs => ?_)
  split at h1
  · rename_i hl
    refine ⟨by rw [line_, ← hvs.length]; exact hl, fun p hp => ?_⟩
    exact h1 _ _ _ (J1.laid hp).1 (J1.laid hp).2 _ (rep_newL (J1.free hp).1 hvs)
  · exact h1.elim

/-! ### subscripts -/
def opIx : D → D → Option D
  | .lst ds, .int i => atI ds i
  | .tup ds, .int i => atI ds i
  | _, _ => none
theorem RepL.at {K : PySem.W.Frag} {G : Hp} {hs : List Addr} {ds : List D} {vs : List V} {i : Int} {d : D} (r : RepL K M G hs ds vs) (e : atI ds i = some d) : ∃ v, atI vs i = some v ∧ Rep K M G hs d v := by
  unfold atI at e ⊢
  rw [← r.length]
  cases q : ixN ds.length i with
  | none => rw [q] at e; cases e
  | some j =>
    rw [q] at e
    exact r.get (i := j) e
theorem de_ix (ha : DB M X W a fa) (hb : DB M X W b fb) (hs : PlainIx b := by exact fun _ _ => rfl) : DE M X W (.Subscript a b pos) (bopD opIx fa fb) := by
  obtain ⟨ta, pa, ha⟩ := ha.ex
  obtain ⟨tb, pb, hb⟩ := hb.ex
  refine ⟨_, pe_ix (ix_list.or ix_tup) pa pb hs, fun A σ H G hs own η s Q I hp => bin_run (op := getItem) ?_ ha hb I hp⟩
  intro G hs s H x y z v u Q J hx hy e k
  unfold opIx at e
  split at e
  · obtain ⟨a, vs, rfl, h1, r⟩ := hx.lst J
    obtain ⟨w, h2, h3⟩ := r.at e
    exact .inl ⟨a, vs, _, w, rfl, hy.int, SqL.of h1, h2, k G H (Stp.refl _ _ _ _) J w h3⟩
  · obtain ⟨a, vs, rfl, h1, r⟩ := hx.tup J
    obtain ⟨w, h2, h3⟩ := r.at e
    exact .inr ⟨a, vs, _, w, rfl, hy.int, h1, h2, k G H (Stp.refl _ _ _ _) J w h3⟩
  · cases e
/-- the part of a list -/
def cutD (ds : List D) (lo hi : Option Int) : List D := (ds.drop (HT.sIx ds.length 0 lo)).take (HT.sIx ds.length ds.length hi - HT.sIx ds.length 0 lo)
theorem RepL.cut {K : PySem.W.Frag} {G : Hp} {hs : List Addr} {ds : List D} {vs : List V} (r : RepL K M G hs ds vs) (lo hi : Option Int) : RepL K M G hs (cutD ds lo hi) (cutV vs lo hi) := by
  unfold cutD cutV
  rw [← r.length]
  exact (r.drop _).take _
def opCut : D → Option Int → Option Int → Option D
  | .lst ds, lo, hi => some (.lst (cutD ds lo hi))
  | .tup ds, lo, hi => some (.tup (cutD ds lo hi))
  | .scr ns, lo, hi => some (.lst (cutD (ns.map .int) lo hi))
  | _, _, _ => none
def asI : D → Option Int
  | .int i => some i
  | _ => none
theorem asI_some {d : D} {i : Int} (h : asI d = some i) : d = .int i := by
  cases d <;> simp_all [asI]
def partN : Env → DS → R (Option Int) := fun _ s => .ok none s
def partS (f : Env → DS → R D) : Env → DS → R (Option Int) := fun η s => (f η s).bind fun d s1 => (R.ofO (asI d) s1).bind fun i s2 => .ok (some i) s2
structure DO (M : Mp) (X : Cx) (W : WX) (e : Option Expr) (f : Env → DS → R (Option Int)) : Prop where
  ex : ∃ t, PO X e t ∧ ∀ (A : Anc) (σ : L2.St) (H G : Hp) (hs : List Addr) (own : Nat → Addr) (η : Env) (s : DS) (Q : Option Int → Hp → Prop), Sm X.K M A σ H G hs own η s →
    RPost X.K M σ W G hs H (f η s) (fun d _ _ _ H' => Q d H') → t σ H Q
theorem do_none : DO M X W none partN := ⟨_, po_none, fun A σ H G hs own η s Q I r => r G hs H (Stp.refl _ _ _ _) I.sim⟩
theorem do_some (h : DE M X W e f) : DO M X W (some e) (partS f) := by
  obtain ⟨t, p, h⟩ := h.ex
  refine ⟨_, po_some p, fun A σ H G hs own η s Q I hp => ?_⟩
  refine h A σ H G hs own η s _ I (hp.bind.mono fun d G1 hs1 s1 H1 S1 J1 h1 v hv => ?_)
  obtain ⟨i, e, k⟩ := h1.bind.ofO
  rw [asI_some e, rep_int] at hv
  exact ⟨i, hv, k G1 hs1 H1 (Stp.refl _ _ _ _) J1 G1 hs1 H1 (Stp.refl _ _ _ _) J1⟩
def sliceD (fa : Env → DS → R D) (fl fh : Env → DS → R (Option Int)) : Env → DS → R D := fun η s => (fa η s).bind fun x s1 => (fl η s1).bind fun l s2 => (fh η s2).bind fun u s3 => R.ofO (opCut (deref s3 x) l u) s3
theorem de_slice {lo hi : Option Expr} {fl fh : Env → DS → R (Option Int)} {p2 : Pos} (ha : DB M X W a fa) (hl : DO M X W lo fl) (hh : DO M X W hi fh) : DE M X W (.Subscript a (.Slice lo hi none p2) pos) (sliceD fa fl fh) := by
  obtain ⟨ta, pa, ha⟩ := ha.ex
  obtain ⟨tl, pl, hl⟩ := hl.ex
  obtain ⟨th, ph, hh⟩ := hh.ex
  refine ⟨_, pe_slice (sl_list.or sl_tupA) pa pl ph, fun A σ H G hs own η s Q I hp => ?_⟩
  refine ha A σ H G hs own η s _ I (hp.bind.mono fun x G1 hs1 s1 H1 S1 J1 h1 v hv => ?_)
  refine hl A σ H1 G1 hs1 own η s1 _ (I.step S1 J1) (h1.bind.mono fun l G2 hs2 s2 H2 S2 J2 h2 => ?_)
  refine hh A σ H2 G2 hs2 own η s2 _ ((I.step S1 J1).step S2 J2) (h2.bind.mono fun u G3 hs3 s3 H3 S3 J3 h3 => ?_)
  obtain ⟨z, e, k⟩ := h3.ofO
  have hx := ((hv.step S2).step S3).read J3
  generalize deref s3 x = d at hx e
  unfold opCut at e
  split at e
  · cases e
    obtain ⟨a, vs, rfl, h1, r⟩ := hx.lst J3
    exact .inl ⟨a, vs, rfl, SqL.of h1, fun p hp => k _ _ _ (J3.laid hp).1 (J3.laid hp).2 _ (rep_newL (J3.free hp).1 (r.cut l u))⟩
  · cases e
    rename_i ds
    have hx' : Rep X.K M G3 hs3 (.tup ds) v := by
      rcases hx with hx | ⟨_, _, hx⟩
      · exact hx
      · exact hx.elim
    obtain ⟨a, vs, rfl, h1, r⟩ := hx.tup J3
    refine .inr ⟨a, vs, rfl, h1, fun z => ?_, fun _ p hp => k _ _ _ (J3.laid hp).1 (J3.laid hp).2 _ (rep_newT (J3.free hp).1 (r.cut l u))⟩
    refine k _ _ _ (Stp.refl _ _ _ _) J3 _ ?_
    have ec : cutD ds l u = ds := by
      unfold cutD
      rw [← r.length] at z
      rw [z.1, z.2, List.drop_zero, Nat.sub_zero, List.take_length]
    rw [ec]
    exact hx'
  · cases e
    rename_i ns
    have hx' : Rep X.K M G3 hs3 (.scr ns) v := by
      rcases hx with hx | ⟨_, _, hx⟩
      · exact hx
      · exact hx.elim
    obtain ⟨a, rfl, h1⟩ := rep_scr.mp hx'
    exact .inl ⟨a, _, rfl, J3.sub.seq h1, fun p hp => k _ _ _ (J3.laid hp).1 (J3.laid hp).2 _ (rep_newL (J3.free hp).1 (RepL.cut (RepL.ints.mpr rfl) l u))⟩
  · cases e

/-! ### fields -/
/-- what the written part says of the class c -/
structure ClsOk (K : PySem.W.Frag) (M : Mp) (c : Nat) : Prop where
  cl : Cls K (M.cls c)
  no : ∀ f ∈ M.flds c, NoAttr K (M.cls c) f
  nd : (M.flds c).Nodup
  few : (M.flds c).length < 1000
def fldO (c i : Nat) : D → Option D
  | .obj c' ds => if c' = c then ds[i]? else none
  | _ => none
def fldD (c i : Nat) (fa : Env → DS → R D) : Env → DS → R D := uopD (fldO c i) fa
theorem lookup_at : ∀ {fs : List (Str × V)} {i : Nat} {f : Str} {v : V}, (fs.map (·.1)).Nodup → (fs.map (·.1))[i]? = some f → (fs.map (·.2))[i]? = some v → fs.lookup f = some v
  | [], _, _, _, _, h, _ => by simp at h
  | (g, w) :: fs, 0, f, v, _, h1, h2 => by
    simp at h1 h2
    subst h1 h2
    simp [List.lookup]
  | (g, w) :: fs, i + 1, f, v, nd, h1, h2 => by
    rw [List.map_cons, List.nodup_cons] at nd
    have h3 : (fs.map (·.1))[i]? = some f := by simpa using h1
    have hne : ¬ f = g := fun e => nd.1 (by rw [← e]; exact List.mem_of_getElem? h3)
    have hne' : (f == g) = false := by simpa using hne
    rw [List.lookup_cons, hne']
    exact lookup_at nd.2 h3 (by simpa using h2)
theorem RV.fld {K : PySem.W.Frag} {G H : Hp} {hs : List Addr} {s : DS} {c i : Nat} {d z : D} {v : V} {f : Str} (C : ClsOk K M c) (J : Sim K M G hs s H) (hf : (M.flds c)[i]? = some f) (h : RV K M G hs H d v) (e : fldO c i d = some z) :
    ∃ a dx fs w, v = .ref a ∧ H a = some (.ins (M.cls c) dx fs) ∧ fs.lookup f = some w ∧ Rep K M G hs z w := by
  unfold fldO at e
  split at e
  · rename_i c' ds
    split at e
    · rename_i hc
      subst hc
      rcases h with h | ⟨a, rfl, dx, fs, h1, h2, h3⟩
      · obtain ⟨a, dx, fs, rfl, h1, h2, h3⟩ := rep_obj.mp h
        obtain ⟨w, hw, rw'⟩ := h3.get e
        exact ⟨a, dx, fs, w, rfl, J.sub _ _ h1, lookup_at (by rw [h2]; exact C.nd) (by rw [h2]; exact hf) hw, rw'⟩
      · obtain ⟨w, hw, rw'⟩ := h3.get e
        have hi : i < ds.length := (List.getElem?_eq_some_iff.mp e).1
        exact ⟨a, dx, fs, w, rfl, h1, lookup_at (by rw [h2]; exact C.nd.sublist (List.take_sublist _ _)) (by rw [h2, List.getElem?_take_of_lt hi]; exact hf) hw, rw'⟩
    · cases e
  · cases e
theorem de_fld {c i : Nat} {f : Str} (C : ClsOk X.K M c) (ha : DB M X W a fa) (hf : (M.flds c)[i]? = some f := by rfl) (hb : attributeBase a f X.env (eval a X.env) = eval a X.env := by rfl) : DE M X W (.Attribute a f pos) (fldD c i fa) := by
  obtain ⟨ta, pa, ha⟩ := ha.ex
  refine ⟨_, pe_fld pa hb, fun A σ H G hs own η s Q I hp => ?_⟩
  refine ha A σ H G hs own η s _ I (hp.bind.mono fun x G1 hs1 s1 H1 S1 J1 h1 v hv => ?_)
  obtain ⟨z, e, k⟩ := h1.ofO
  obtain ⟨a, dx, fs, w, rfl, h2, h3, h4⟩ := (hv.read J1).fld C J1 hf e
  exact ⟨a, _, dx, fs, w, rfl, h2, C.cl, C.no f (List.mem_of_getElem? hf), h3, k G1 hs1 H1 (Stp.refl _ _ _ _) J1 _ h4⟩
end
end DL
set_option Elab.async false
set_option linter.all false
set_option maxRecDepth 100000
set_option maxHeartbeats 2000000
namespace DL
open PySem PySem.Spec PyProof.Rows L2

/-! ### built-in functions -/
def RVL (K : PySem.W.Frag) (M : Mp) (G : Hp) (hs : List Addr) (H : Hp) : List D → List V → Prop := Paired (RV K M G hs H)
section
variable (M : Mp) (X : Cx)
abbrev CEx (r : List V → Hp → VK → Prop) (o : List D → Option D) : Prop := ∀ (G : Hp) (hs : List Addr) (s : DS) (H : Hp) (ds : List D) (z : D) (vs : List V) (Q : VK), Sim X.K M G hs s H → RVL X.K M G hs H ds vs → o ds = some z →
    (∀ G' H', Stp M G hs H G' hs H' → Sim X.K M G' hs s H' → ∀ w, Rep X.K M G' hs z w → Q w H') → r vs H Q
structure CallD (f : Value) (o : List D → Option D) : Prop where
  ex : ∃ r, CallR X f r ∧ CEx M X r o
end
def bltD (o : List D → Option D) (g : Env → DS → R (List D)) : Env → DS → R D := fun η s => (g η s).bind fun ds s1 => R.ofO (o (ds.map (deref s1))) s1
section
variable {M : Mp} {X : Cx} {W : WX} {e : Expr} {es : List Expr} {g : Env → DS → R (List D)} {pos p : Pos} {x : Str} {id T : String} {o : List D → Option D}
theorem BVL.read {K : PySem.W.Frag} {G H : Hp} {hs : List Addr} {s : DS} {ds : List D} {vs : List V} (J : Sim K M G hs s H) (h : BVL K M G hs H ds vs) : RVL K M G hs H (ds.map (deref s)) vs := by
  unfold BVL at h
  unfold RVL
  induction h with
  | nil => exact Paired.nil
  | cons h t ih => exact Paired.cons (h.read J) ih
theorem blt_run {r : List V → Hp → VK → Prop} {t : TA} {A : Anc} {σ : L2.St} {H G : Hp} {hs : List Addr} {own : Nat → Addr} {η : Env} {s : DS} {Q : VK} (hr : CEx M X r o) (ha : ABEx M X W t g) (I : Sm X.K M A σ H G hs own η s)
    (hp : RPost X.K M σ W G hs H (bltD o g η s) (fun d G' hs' _ H' => ∀ v, Rep X.K M G' hs' d v → Q v H')) : tCB r t σ H Q := by
  refine ha A σ H G hs own η s _ I (hp.bind.mono fun ds G1 hs1 s1 H1 S1 J1 h1 vs hvs => ?_)
  obtain ⟨z, e, k⟩ := h1.ofO
  exact hr G1 hs1 s1 H1 _ z vs Q J1 (hvs.read J1) e fun G3 H3 S3 J3 w hw => k G3 hs1 H3 S3 J3 w hw
theorem de_blt (ho : CallD M X (.builtin id) o) (hm : X.mg x = none) (hv : bootBuiltins x = some (.builtin id)) (ha : DAB M X W (e :: es) g) (hg : Gl X x := by rfl) (hn : x ≠ "__name__" := by decide) (hdb : (x == ("__debug__" : Str)) = false := by decide)
    (he : starEach (e :: es) X.env = (false, eval e X.env) :: starEach es X.env := by rfl) (hpl : (backTo pos (starEach es X.env)).any (·.1) = false := by rfl) : DE M X W (.Call (.Name x p) (e :: es) [] pos) (bltD o g) := by
  obtain ⟨r, hc, hr⟩ := ho.ex
  obtain ⟨t, pa, ha⟩ := ha.ex
  exact ⟨_, pe_callB hc hg hm hv pa hn hdb he hpl, fun A σ H G hs own η s Q I hp => blt_run hr ha I hp⟩
theorem de_bty (ho : CallD M X (.type T) o) (hm : X.mg x = none) (hv : bootBuiltins x = some (.type T)) (ha : DAB M X W (e :: es) g) (hg : Gl X x := by rfl) (hn : x ≠ "__name__" := by decide) (hdb : (x == ("__debug__" : Str)) = false := by decide)
    (he : starEach (e :: es) X.env = (false, eval e X.env) :: starEach es X.env := by rfl) (hpl : (backTo pos (starEach es X.env)).any (·.1) = false := by rfl) : DE M X W (.Call (.Name x p) (e :: es) [] pos) (bltD o g) := by
  obtain ⟨r, hc, hr⟩ := ho.ex
  obtain ⟨t, pa, ha⟩ := ha.ex
  exact ⟨_, pe_callTy hc hg hm hv pa hn hdb he hpl, fun A σ H G hs own η s Q I hp => blt_run hr ha I hp⟩
theorem RVL.one {K : PySem.W.Frag} {G H : Hp} {hs : List Addr} {d : D} {vs : List V} (h : RVL K M G hs H [d] vs) : ∃ v, vs = [v] ∧ RV K M G hs H d v := by
  cases h with
  | cons h t => cases t; exact ⟨_, rfl, h⟩
theorem RVL.two {K : PySem.W.Frag} {G H : Hp} {hs : List Addr} {d d' : D} {vs : List V} (h : RVL K M G hs H [d, d'] vs) : ∃ v v', vs = [v, v'] ∧ RV K M G hs H d v ∧ RV K M G hs H d' v' := by
  cases h with
  | cons h t => cases t with
    | cons h' t => cases t; exact ⟨_, _, rfl, h, h'⟩
def absO : List D → Option D
  | [.int i] => some (.int (if i < 0 then -i else i))
  | _ => none
theorem cd_abs : CallD M X (.builtin "abs") absO := by
  refine ⟨_, call_abs, fun G hs s H ds z vs Q J hv e k => ?_⟩
  unfold absO at e
  split at e
  · cases e
    obtain ⟨v, rfl, h⟩ := hv.one
    exact ⟨_, by rw [h.int], k G H (Stp.refl _ _ _ _) J _ (rep_int.mpr rfl)⟩
  · cases e
def intO : List D → Option D
  | [.int i] => some (.int i)
  | [.bl b] => some (.int (if b = true then 1 else 0))
  | _ => none
theorem cd_int : CallD M X (.type "int") intO := by
  refine ⟨_, call_int1, fun G hs s H ds z vs Q J hv e k => ?_⟩
  unfold intO at e
  split at e
  · cases e
    obtain ⟨v, rfl, h⟩ := hv.one
    exact .inl ⟨_, by rw [h.int], k G H (Stp.refl _ _ _ _) J _ (rep_int.mpr rfl)⟩
  · cases e
    obtain ⟨v, rfl, h⟩ := hv.one
    exact .inr ⟨_, by rw [h.bl], k G H (Stp.refl _ _ _ _) J _ (rep_int.mpr rfl)⟩
  · cases e
def min2O : List D → Option D
  | [.int i, .int j] => some (.int (if j < i then j else i))
  | _ => none
def max2O : List D → Option D
  | [.int i, .int j] => some (.int (if j > i then j else i))
  | _ => none
theorem cd_min2 (hc : X.calm = true) : CallD M X (.builtin "min") min2O := by
  refine ⟨_, call_min2 hc, fun G hs s H ds z vs Q J hv e k => ?_⟩
  unfold min2O at e
  split at e
  · cases e
    obtain ⟨v, v', rfl, h, h'⟩ := hv.two
    exact ⟨_, _, by rw [h.int, h'.int], k G H (Stp.refl _ _ _ _) J _ (rep_int.mpr rfl)⟩
  · cases e
theorem cd_max2 (hc : X.calm = true) : CallD M X (.builtin "max") max2O := by
  refine ⟨_, call_max2 hc, fun G hs s H ds z vs Q J hv e k => ?_⟩
  unfold max2O at e
  split at e
  · cases e
    obtain ⟨v, v', rfl, h, h'⟩ := hv.two
    exact ⟨_, _, by rw [h.int, h'.int], k G H (Stp.refl _ _ _ _) J _ (rep_int.mpr rfl)⟩
  · cases e
def lenO : List D → Option D
  | [.lst l] => some (.int (l.length : Nat))
  | [.tup l] => some (.int (l.length : Nat))
  | [.str z] => if z.length ≤ 16777216 then some (.int (z.length : Nat)) else none
  | _ => none
theorem cd_len : CallD M X (.builtin "len") lenO := by
  refine ⟨_, call_len, fun G hs s H ds z vs Q J hv e k => ?_⟩
  unfold lenO at e
  split at e
  · cases e
    obtain ⟨v, rfl, h⟩ := hv.one
    obtain ⟨a, ws, rfl, h1, r⟩ := h.lst J
    refine ⟨_, _, rfl, .inl ⟨ws, SqL.of h1, rfl⟩, ?_⟩
    rw [← r.length]
    exact k G H (Stp.refl _ _ _ _) J _ (rep_int.mpr rfl)
  · cases e
    obtain ⟨v, rfl, h⟩ := hv.one
    obtain ⟨a, ws, rfl, h1, r⟩ := h.tup J
    refine ⟨_, _, rfl, .inr ⟨ws, h1, rfl⟩, ?_⟩
    rw [← r.length]
    exact k G H (Stp.refl _ _ _ _) J _ (rep_int.mpr rfl)
  · split at e
    · rename_i z hl
      cases e
      obtain ⟨v, rfl, h⟩ := hv.one
      rw [h.str]
      exact ⟨_, _, rfl, ⟨by rw [line_]; exact hl, rfl⟩, k G H (Stp.refl _ _ _ _) J _ (rep_int.mpr rfl)⟩
    · cases e
  · cases e
def listO : List D → Option D
  | [.lst l] => some (.lst l)
  | [.tup l] => some (.lst l)
  | _ => none
theorem cd_list : CallD M X (.type "list") listO := by
  refine ⟨_, call_list_of, fun G hs s H ds z vs Q J hv e k => ?_⟩
  unfold listO at e
  split at e
  · cases e
    obtain ⟨v, rfl, h⟩ := hv.one
    obtain ⟨a, ws, rfl, h1, r⟩ := h.lst J
    exact ⟨_, _, rfl, .inl (SqL.of h1), fun p hp => k _ _ (J.laid hp).1 (J.laid hp).2 _ (rep_newL (J.free hp).1 r)⟩
  · cases e
    obtain ⟨v, rfl, h⟩ := hv.one
    obtain ⟨a, ws, rfl, h1, r⟩ := h.tup J
    exact ⟨_, _, rfl, .inr h1, fun p hp => k _ _ (J.laid hp).1 (J.laid hp).2 _ (rep_newL (J.free hp).1 r)⟩
  · cases e
def tupleO : List D → Option D
  | [.lst l] => some (.tup l)
  | [.tup l] => some (.tup l)
  | _ => none
theorem cd_tuple : CallD M X (.type "tuple") tupleO := by
  refine ⟨_, call_tuple_of, fun G hs s H ds z vs Q J hv e k => ?_⟩
  unfold tupleO at e
  split at e
  · cases e
    obtain ⟨v, rfl, h⟩ := hv.one
    obtain ⟨a, ws, rfl, h1, r⟩ := h.lst J
    exact ⟨_, _, rfl, .inl ⟨SqL.of h1, fun p hp => k _ _ (J.laid hp).1 (J.laid hp).2 _ (rep_newT (J.free hp).1 r)⟩⟩
  · cases e
    rename_i l
    obtain ⟨v, rfl, h⟩ := hv.one
    have h' : Rep X.K M G hs (.tup l) v := by
      rcases h with h | ⟨_, _, h⟩
      · exact h
      · exact h.elim
    obtain ⟨a, ws, rfl, h1, r⟩ := h.tup J
    exact ⟨_, _, rfl, .inr ⟨h1, k _ _ (Stp.refl _ _ _ _) J _ h'⟩⟩
  · cases e
/-- sum of ints -/
def intsOf : List D → Option (List Int)
  | [] => some []
  | .int i :: r => (intsOf r).map (i :: ·)
  | _ => none
theorem intsOf_some : ∀ {l : List D} {ns : List Int}, intsOf l = some ns → l = ns.map .int
  | [], ns, h => by simp [intsOf] at h; subst h; rfl
  | d :: l, ns, h => by
    cases d with
    | int i =>
      simp only [intsOf, Option.map_eq_some_iff] at h
      obtain ⟨r, h1, rfl⟩ := h
      rw [intsOf_some h1]
      rfl
    | _ => simp [intsOf] at h
theorem intsOf_map : ∀ (ns : List Int), intsOf (ns.map .int) = some ns
  | [] => rfl
  | n :: ns => by simp [intsOf, intsOf_map ns]
def sumO : List D → Option D
  | [.lst l] => (intsOf l).map fun ns => .int ns.sum
  | _ => none
theorem cd_sum (hc : X.calm = true) : CallD M X (.builtin "sum") sumO := by
  refine ⟨_, cr_sum hc, fun G hs s H ds z vs Q J hv e k => ?_⟩
  unfold sumO at e
  split at e
  · rename_i l
    rw [Option.map_eq_some_iff] at e
    obtain ⟨ns, e1, rfl⟩ := e
    obtain ⟨v, rfl, h⟩ := hv.one
    obtain ⟨a, ws, rfl, h1, r⟩ := h.lst J
    rw [intsOf_some e1, RepL.ints] at r
    subst r
    exact ⟨_, ns, rfl, SqL.of h1, k G H (Stp.refl _ _ _ _) J _ (rep_int.mpr rfl)⟩
  · cases e
/-- the least of alike data -/
def ltD (x y : D) : Bool := PySem.W.dataLt (toPD x) (toPD y)
def alikeD (x y : D) : Bool := PySem.W.alike (toPD x) (toPD y)
def likeAll (l : List D) : Bool := dOkL l && decide (dDepL l ≤ 60) && l.all (fun x => l.all fun y => alikeD x y) && l.all (fun x => match x with | .non => false | _ => true)
def minF (x : D) (xs : List D) : D := xs.foldl (fun a y => if ltD y a = true then y else a) x
def maxF (x : D) (xs : List D) : D := xs.foldl (fun a y => if ltD a y = true then y else a) x
mutual
theorem toPD_inj : ∀ (d e : D), dOk d = true → dOk e = true → toPD d = toPD e → d = e
  | .non, e, _, h, q => by cases e <;> simp_all [toPD, dOk]
  | .bl b, e, _, h, q => by cases e <;> simp_all [toPD, dOk]
  | .int b, e, _, h, q => by cases e <;> simp_all [toPD, dOk]
  | .str b, e, _, h, q => by cases e <;> simp_all [toPD, dOk]
  | .tup l, e, h, h', q => by
    cases e with
    | tup l' =>
      simp only [toPD, PyData.tuple.injEq] at q
      rw [toPDL_inj l l' (by simpa [dOk] using h) (by simpa [dOk] using h') q]
    | _ => simp_all [toPD, dOk]
  | .lst l, e, h, h', q => by
    cases e with
    | lst l' =>
      simp only [toPD, PyData.list.injEq] at q
      rw [toPDL_inj l l' (by simpa [dOk] using h) (by simpa [dOk] using h') q]
    | _ => simp_all [toPD, dOk]
  | .dic _, _, h, _, _ => by simp [dOk] at h
  | .obj _ _, _, h, _, _ => by simp [dOk] at h
  | .han _, _, h, _, _ => by simp [dOk] at h
  | .scr _, _, h, _, _ => by simp [dOk] at h
theorem toPDL_inj : ∀ (d e : List D), dOkL d = true → dOkL e = true → toPDL d = toPDL e → d = e
  | [], e, _, _, q => by cases e <;> simp_all [toPDL]
  | d :: l, [], _, _, q => by simp [toPDL] at q
  | d :: l, e :: l', h, h', q => by
    have h1 : dOk d = true ∧ dOkL l = true := by simpa [dOkL] using h
    have h2 : dOk e = true ∧ dOkL l' = true := by simpa [dOkL] using h'
    simp only [toPDL, List.cons.injEq] at q
    rw [toPD_inj d e h1.1 h2.1 q.1, toPDL_inj l l' h1.2 h2.2 q.2]
end
theorem toPDL_map : ∀ (l : List D), toPDL l = l.map toPD
  | [] => by simp [toPDL]
  | d :: l => by simp [toPDL, toPDL_map l]
theorem dOkL_mem : ∀ {l : List D} {d : D}, dOkL l = true → d ∈ l → dOk d = true
  | e :: l, d, h, hm => by
    have h1 : dOk e = true ∧ dOkL l = true := by simpa [dOkL] using h
    rcases List.mem_cons.mp hm with rfl | hm
    · exact h1.1
    · exact dOkL_mem h1.2 hm
theorem toPD_minF (x : D) : ∀ (xs : List D), toPD (minF x xs) = PySem.W.minD (toPD x) (xs.map toPD) := by
  intro xs
  unfold minF PySem.W.minD
  induction xs generalizing x with
  | nil => rfl
  | cons y ys ih =>
    rw [List.map_cons, List.foldl_cons, List.foldl_cons, ih]
    congr 1
    show toPD (if ltD y x = true then y else x) = if PySem.W.dataLt (toPD y) (toPD x) = true then toPD y else toPD x
    unfold ltD
    split <;> rfl
theorem toPD_maxF (x : D) : ∀ (xs : List D), toPD (maxF x xs) = PySem.W.maxD (toPD x) (xs.map toPD) := by
  intro xs
  unfold maxF PySem.W.maxD
  induction xs generalizing x with
  | nil => rfl
  | cons y ys ih =>
    rw [List.map_cons, List.foldl_cons, List.foldl_cons, ih]
    congr 1
    show toPD (if ltD x y = true then y else x) = if PySem.W.dataLt (toPD x) (toPD y) = true then toPD y else toPD x
    unfold ltD
    split <;> rfl
theorem minF_mem (x : D) : ∀ (xs : List D), minF x xs ∈ x :: xs := by
  intro xs
  unfold minF
  induction xs generalizing x with
  | nil => exact List.mem_cons_self
  | cons y ys ih =>
    rw [List.foldl_cons]
    have q := ih (if ltD y x = true then y else x)
    rcases List.mem_cons.mp q with e | e
    · rw [e]
      split
      · exact List.mem_cons_of_mem _ List.mem_cons_self
      · exact List.mem_cons_self
    · exact List.mem_cons_of_mem _ (List.mem_cons_of_mem _ e)
theorem maxF_mem (x : D) : ∀ (xs : List D), maxF x xs ∈ x :: xs := by
  intro xs
  unfold maxF
  induction xs generalizing x with
  | nil => exact List.mem_cons_self
  | cons y ys ih =>
    rw [List.foldl_cons]
    have q := ih (if ltD x y = true then y else x)
    rcases List.mem_cons.mp q with e | e
    · rw [e]
      split
      · exact List.mem_cons_of_mem _ List.mem_cons_self
      · exact List.mem_cons_self
    · exact List.mem_cons_of_mem _ (List.mem_cons_of_mem _ e)
theorem likeAll_of {l : List D} (h : likeAll l = true) : dOkL l = true ∧ dDepL l ≤ 60 ∧ PySem.W.AlikeAll (l.map toPD) := by
  unfold likeAll at h
  simp only [Bool.and_eq_true, decide_eq_true_eq, List.all_eq_true] at h
  obtain ⟨⟨⟨h1, h2⟩, h3⟩, h4⟩ := h
  refine ⟨h1, h2, fun x hx y hy => ?_, fun x hx => ?_⟩
  · obtain ⟨d, hd, rfl⟩ := List.mem_map.mp hx
    obtain ⟨e, he, rfl⟩ := List.mem_map.mp hy
    exact h3 d hd e he
  · obtain ⟨d, hd, rfl⟩ := List.mem_map.mp hx
    have q := h4 d hd
    have o := dOkL_mem h1 hd
    cases d <;> simp_all [toPD, dOk]
def minO : List D → Option D
  | [.lst (d :: ds)] => if likeAll (d :: ds) = true then some (minF d ds) else none
  | _ => none
def maxO : List D → Option D
  | [.lst (d :: ds)] => if likeAll (d :: ds) = true then some (maxF d ds) else none
  | _ => none
/-- an item of a list that reads as a datum -/
theorem item_is {K : PySem.W.Frag} {G : Hp} {hs : List Addr} {l : List D} {vs : List V} {its : List Value} {h : Heap} {i : Nat} {u : Value} {d : D} {bs : List Addr} (r : RepL K M G hs l vs) (rv : Vals vs its) (hu : its[i]? = some u) (ok : dOkL l = true) (hd : d ∈ l)
    (h1 : Reads h u (toPD d) bs) (h2 : ∀ (j : Nat) (e : D) (w : Value), l[j]? = some e → its[j]? = some w → ∃ cs, Reads h w (toPD e) cs) (hal : PySem.W.AlikeAll (l.map toPD)) : ∃ v, vs[i]? = some v ∧ RelV v u ∧ Rep K M G hs d v := by
  have hi : i < its.length := (List.getElem?_eq_some_iff.mp hu).1
  have hiv : i < vs.length := by rw [rv.length]; exact hi
  have e1 : vs[i]? = some vs[i] := List.getElem?_eq_getElem hiv
  obtain ⟨u', hu', ru⟩ := rv.get e1
  rw [hu] at hu'
  cases hu'
  obtain ⟨e, he, re⟩ := r.get' e1
  obtain ⟨cs, h3⟩ := h2 i e u he hu
  have hm := List.mem_of_getElem? he
  have q := PySem.W.alike_unique _ _ _ _ _ (hal.1 _ (List.mem_map.mpr ⟨e, hm, rfl⟩) _ (List.mem_map.mpr ⟨d, hd, rfl⟩)) h3 h1
  have q2 := toPD_inj e d (dOkL_mem ok hm) (dOkL_mem ok hd) q
  subst q2
  exact ⟨_, e1, ru, re⟩
theorem readsAll_get {h : Heap} : ∀ {us : List Value} {ds : List PyData} {as : List Addr}, ReadsAll h us ds as → ∀ (j : Nat) (e : PyData) (w : Value), ds[j]? = some e → us[j]? = some w → ∃ cs, Reads h w e cs
  | _, _, _, .nil, j, e, w, h1, _ => by simp at h1
  | _, _, _, .cons r rs, 0, e, w, h1, h2 => by
    simp at h1 h2
    subst h1 h2
    exact ⟨_, r⟩
  | _, _, _, .cons r rs, j + 1, e, w, h1, h2 => readsAll_get rs j e w (by simpa using h1) (by simpa using h2)
/-- min(xs), max(xs), xs a list of alike data -/
def rMinD (X : Cx) (M : Mp) (mn : D → List D → D) : List V → Hp → VK → Prop := fun vs H Q => ∃ (a : Addr) (ws : List V) (G : Hp) (hs : List Addr) (s : DS) (d : D) (ds : List D), vs = [.ref a] ∧ H a = some (.lst ws) ∧ Sim X.K M G hs s H ∧ RepL X.K M G hs (d :: ds) ws ∧ likeAll (d :: ds) = true ∧
  ∀ v, Rep X.K M G hs (mn d ds) v → Q v H
theorem cr_minD (hc : X.calm = true) (hu : X.A.units + 64 < cLine) : CallR X (.builtin "min") (rMinD X M minF) := by
  intro pins s σ H vs us Q I r h
  obtain ⟨a, ws, G, hs, st, d, ds, rfl, hl, J, rl, hk, q⟩ := h
  obtain ⟨ok, dp, hal⟩ := likeAll_of hk
  obtain ⟨its, rv, pl, _⟩ := I.list (SqL.of hl)
  rw [Vals.ref1 r]
  obtain ⟨as, ra⟩ := Dp.readsAll I (toPDL (d :: ds)) ws its (dp_ofL J.sub _ _ ok rl) rv
  have el : toPDL (d :: ds) = toPD d :: ds.map toPD := by rw [toPDL_map, List.map_cons]
  have dd := (lay_toPDL (d :: ds) ok).2
  rw [el] at ra dd
  refine PySem.W.min_list_data (I.ok.hd hc) pl.isList ra hal (by rw [dd]; omega) fun i v h' tk bs hv rd hk' => ?_
  rw [← toPD_minF] at rd
  have hv' : its[i]? = some v := by simpa using hv
  obtain ⟨w, hw, rw', rp⟩ := item_is rl rv hv' ok (minF_mem d ds) rd (fun j e w he hw => by
    obtain ⟨cs, h9⟩ := readsAll_get ra j (toPD e) w (by rw [← List.map_cons, List.getElem?_map, he]; rfl) hw
    exact ⟨cs, PyProof.Rows.Reads.keeps hk' h9⟩) hal
  exact ⟨w, H, I.kept (t' := tk) hk', rw', q w rp⟩
theorem cr_maxD (hc : X.calm = true) (hu : X.A.units + 64 < cLine) : CallR X (.builtin "max") (rMinD X M maxF) := by
  intro pins s σ H vs us Q I r h
  obtain ⟨a, ws, G, hs, st, d, ds, rfl, hl, J, rl, hk, q⟩ := h
  obtain ⟨ok, dp, hal⟩ := likeAll_of hk
  obtain ⟨its, rv, pl, _⟩ := I.list (SqL.of hl)
  rw [Vals.ref1 r]
  obtain ⟨as, ra⟩ := Dp.readsAll I (toPDL (d :: ds)) ws its (dp_ofL J.sub _ _ ok rl) rv
  have el : toPDL (d :: ds) = toPD d :: ds.map toPD := by rw [toPDL_map, List.map_cons]
  have dd := (lay_toPDL (d :: ds) ok).2
  rw [el] at ra dd
  refine PySem.W.max_list_data (I.ok.hd hc) pl.isList ra hal (by rw [dd]; omega) fun i v h' tk bs hv rd hk' => ?_
  rw [← toPD_maxF] at rd
  have hv' : its[i]? = some v := by simpa using hv
  obtain ⟨w, hw, rw', rp⟩ := item_is rl rv hv' ok (maxF_mem d ds) rd (fun j e w he hw => by
    obtain ⟨cs, h9⟩ := readsAll_get ra j (toPD e) w (by rw [← List.map_cons, List.getElem?_map, he]; rfl) hw
    exact ⟨cs, PyProof.Rows.Reads.keeps hk' h9⟩) hal
  exact ⟨w, H, I.kept (t' := tk) hk', rw', q w rp⟩
theorem cd_min (hc : X.calm = true) (hu : X.A.units + 64 < cLine) : CallD M X (.builtin "min") minO := by
  refine ⟨_, cr_minD (M := M) hc hu, fun G hs s H ds z vs Q J hv e k => ?_⟩
  unfold minO at e
  split at e
  · split at e
    · rename_i d ds hk
      cases e
      obtain ⟨v, rfl, h⟩ := hv.one
      obtain ⟨a, ws, rfl, h1, r⟩ := h.lst J
      exact ⟨a, ws, G, hs, s, d, ds, rfl, h1, J, r, hk, fun v hv => k G H (Stp.refl _ _ _ _) J v hv⟩
    · cases e
  · cases e
theorem cd_max (hc : X.calm = true) (hu : X.A.units + 64 < cLine) : CallD M X (.builtin "max") maxO := by
  refine ⟨_, cr_maxD (M := M) hc hu, fun G hs s H ds z vs Q J hv e k => ?_⟩
  unfold maxO at e
  split at e
  · split at e
    · rename_i d ds hk
      cases e
      obtain ⟨v, rfl, h⟩ := hv.one
      obtain ⟨a, ws, rfl, h1, r⟩ := h.lst J
      exact ⟨a, ws, G, hs, s, d, ds, rfl, h1, J, r, hk, fun v hv => k G H (Stp.refl _ _ _ _) J v hv⟩
    · cases e
  · cases e
end
end DL
set_option Elab.async false
set_option linter.all false
set_option maxRecDepth 100000
set_option maxHeartbeats 2000000
namespace DL
open PySem PySem.Spec PyProof.Rows L2

/-! ### statements -/
inductive F where
  | nx (η : Env) (s : DS) | rt (d : D) (s : DS) | bk (η : Env) (s : DS) | ct (η : Env) (s : DS) | ex (c : Nat) (p : List D) (η : Env) (s : DS) | bad
def R.toF {α : Type} (r : R α) (η : Env) (k : α → DS → F) : F := match r with
  | .ok a s => k a s
  | .ex c p s => .ex c p η s
  | .bad => .bad
def FPost (K : PySem.W.Frag) (M : Mp) (A : Anc) (W : WX) (E : Ends) : F → Prop
  | .nx η s => ∀ σ H G hs own, Sm K M A σ H G hs own η s → E.nx σ H
  | .rt d s => ∀ H G hs v, Stp M A.G A.hs A.H G hs H → Sim K M G hs s H → Rep K M G hs d v → E.rt v H
  | .bk η s => ∀ σ H G hs own, Sm K M A σ H G hs own η s → E.bk σ H
  | .ct η s => ∀ σ H G hs own, Sm K M A σ H G hs own η s → E.ct σ H
  | .ex c p η s => ∀ σ H G hs own cls dx, Sm K M A σ H G hs own η s → ExR K M G hs H c p cls dx → W cls dx σ H
  | .bad => False
section
variable (M : Mp) (X : Cx) (W : WX)
abbrev SEx (t : TS) (g : Env → DS → F) : Prop := ∀ (A : Anc) (σ : L2.St) (H G : Hp) (hs : List Addr) (own : Nat → Addr) (η : Env) (s : DS) (E : Ends), Sm X.K M A σ H G hs own η s → FPost X.K M A W E (g η s) → t E σ H
structure DSt (st : Stmt) (g : Env → DS → F) : Prop where
  ex : ∃ t, PS X st t ∧ SEx M X W t g
structure DSs (st : List Stmt) (g : Env → DS → F) : Prop where
  ex : ∃ t, PSs X st t ∧ SEx M X W t g
end
def nextB : Env → DS → F := fun η s => .nx η s
def seqB (f g : Env → DS → F) : Env → DS → F := fun η s => match f η s with
  | .nx η' s' => g η' s'
  | r => r
def ifB (c : Env → DS → R Bool) (f g : Env → DS → F) : Env → DS → F := fun η s => (c η s).toF η fun b s1 => if b = true then f η s1 else g η s1
def retB (f : Env → DS → R D) : Env → DS → F := fun η s => (f η s).toF η fun d s1 => .rt d s1
def retN : Env → DS → F := fun _ s => .rt .non s
def dropB (f : Env → DS → R D) : Env → DS → F := fun η s => (f η s).toF η fun _ s1 => .nx η s1
def setF (η : Env) (i : Nat) (d : D) (s : DS) : F := if i < η.length then .nx (η.set i (.v d)) s else .bad
def setOF (η : Env) (i : Nat) (d : D) (s : DS) : F := if 0 < i ∧ i < η.length then .nx (η.set i (.o d)) s else .bad
def setB (i : Nat) (f : Env → DS → R D) : Env → DS → F := fun η s => (f η s).toF η fun d s1 => setF η i d s1
def setOB (i : Nat) (f : Env → DS → R D) : Env → DS → F := fun η s => (f η s).toF η fun d s1 => setOF η i d s1
def raiseB (c : Nat) : Env → DS → F := fun η s => .ex c [] η s
def breakB : Env → DS → F := fun η s => .bk η s
def contB : Env → DS → F := fun η s => .ct η s
def neverB : Env → DS → F := fun _ _ => .bad
section
variable {M : Mp} {X : Cx} {W : WX} {st : Stmt} {rest : List Stmt} {f g : Env → DS → F} {e : Expr} {fe : Env → DS → R D} {pos : Pos}
theorem FPost.lift {K : PySem.W.Frag} {A : Anc} {σ : L2.St} {H G : Hp} {hs : List Addr} {own : Nat → Addr} {η : Env} {s : DS} {E : Ends} {α : Type} {r : R α} {k : α → DS → F} (I : Sm K M A σ H G hs own η s) (h : FPost K M A W E (r.toF η k)) :
    RPost K M σ W G hs H r (fun a _ _ s' _ => FPost K M A W E (k a s')) := by
  cases r with
  | ok a s' => exact fun G' hs' H' _ _ => h
  | ex c p s' => exact fun G' hs' H' cls dx S J hx => h σ H' G' hs' own cls dx (I.step S J) hx
  | bad => exact h
theorem dss_nil : DSs M X W [] nextB := ⟨_, pss_nil, fun A σ H G hs own η s E I h => h σ H G hs own I⟩
theorem FPost.seq {K : PySem.W.Frag} {A : Anc} {E : Ends} {u : TS} {η : Env} {s : DS} (k : ∀ (A : Anc) (σ : L2.St) (H G : Hp) (hs : List Addr) (own : Nat → Addr) (η : Env) (s : DS) (E : Ends), Sm K M A σ H G hs own η s → FPost K M A W E (g η s) → u E σ H)
    (h : FPost K M A W E (seqB f g η s)) : FPost K M A W { E with nx := u E } (f η s) := by
  unfold seqB at h
  cases e : f η s with
  | nx η' s' =>
    rw [e] at h
    exact fun σ H G hs own I => k A σ H G hs own η' s' E I h
  | rt d s' => rw [e] at h; exact h
  | bk η' s' => rw [e] at h; exact h
  | ct η' s' => rw [e] at h; exact h
  | ex c p η' s' => rw [e] at h; exact h
  | bad => rw [e] at h; exact h
theorem dss_cons (h1 : DSt M X W st f) (h2 : DSs M X W rest g) : DSs M X W (st :: rest) (seqB f g) := by
  obtain ⟨t, p, h⟩ := h1.ex
  obtain ⟨u, q, k⟩ := h2.ex
  exact ⟨_, pss_cons p q, fun A σ H G hs own η s E I hp => h A σ H G hs own η s _ I (FPost.seq k hp)⟩
theorem dss_one (h1 : DSt M X W st f) : DSs M X W [st] f := by
  obtain ⟨t, p, h⟩ := h1.ex
  exact ⟨_, pss_one p, h⟩
theorem ds_pass : DSt M X W (.Pass pos) nextB := ⟨_, ps_pass, fun A σ H G hs own η s E I h => h σ H G hs own I⟩
theorem ds_break : DSt M X W (.Break pos) breakB := ⟨_, ps_break, fun A σ H G hs own η s E I h => h σ H G hs own I⟩
theorem ds_cont : DSt M X W (.Continue pos) contB := ⟨_, ps_continue, fun A σ H G hs own η s E I h => h σ H G hs own I⟩
theorem ds_if {c : Expr} {a b : List Stmt} {tc : Env → DS → R Bool} (hc : DT M X W c tc) (ha : DSs M X W a f) (hb : DSs M X W b g) : DSt M X W (.If c a b pos) (ifB tc f g) := by
  obtain ⟨t, p, h⟩ := hc.ex
  obtain ⟨ta, pa, ha⟩ := ha.ex
  obtain ⟨tb, pb, hb⟩ := hb.ex
  refine ⟨_, ps_if p pa pb, fun A σ H G hs own η s E I hp => ?_⟩
  refine h A σ H G hs own η s _ I ((hp.lift I).mono fun b G1 hs1 s1 H1 S1 J1 h1 => ?_)
  cases b with
  | true =>
    rw [if_pos rfl] at h1 ⊢
    exact ha A σ H1 G1 hs1 own η s1 E (I.step S1 J1) h1
  | false =>
    rw [if_neg Bool.false_ne_true] at h1 ⊢
    exact hb A σ H1 G1 hs1 own η s1 E (I.step S1 J1) h1
theorem ds_expr (he : DE M X W e fe) (hs : swapsWith e none pos.line X.env = pure false := by rfl) : DSt M X W (.Expr e pos) (dropB fe) := by
  obtain ⟨t, p, h⟩ := he.ex
  refine ⟨_, ps_expr p hs, fun A σ H G hs own η s E I hp => ?_⟩
  exact h A σ H G hs own η s _ I ((hp.lift I).mono fun d G1 hs1 s1 H1 S1 J1 h1 v _ => h1 σ H1 G1 hs1 own (I.step S1 J1))

/-- what owns its object is from now on still: the names are read, nothing is theirs -/
theorem ds_retN : DSt M X W (.Return none pos) retN := ⟨_, ps_retN, fun A σ H G hs own η s E I h => h H G hs .non I.stp I.sim (rep_non.mpr rfl)⟩
/-- return, where no name that owns is given out -/
theorem ds_ret (he : DE M X W e fe) : DSt M X W (.Return (some e) pos) (retB fe) := by
  obtain ⟨t, p, h⟩ := he.ex
  refine ⟨_, ps_ret p, fun A σ H G hs own η s E I hp => ?_⟩
  exact h A σ H G hs own η s _ I ((hp.lift I).mono fun d G1 hs1 s1 H1 S1 J1 h1 v hv => h1 H1 G1 hs1 v (I.stp.trans S1) J1 hv)

/-! #### freezing -/
theorem at_rep {K : PySem.W.Frag} {G H : Hp} {hs : List Addr} {a : Addr} (g : G a = none) : ∀ {d : D}, At K M G hs H a d → (∀ c ds, d = .obj c ds → ds.length = (M.flds c).length) → ∃ o, H a = some o ∧ Rep K M (upd G a o) hs d (.ref a)
  | .lst ds, ⟨vs, h1, h2⟩, _ => ⟨_, h1, rep_lst.mpr ⟨a, vs, rfl, upd_same, h2.mono (same_upd g) (Pre.refl _)⟩⟩
  | .dic kvs, .inl ⟨vs, h1, h2⟩, _ => ⟨_, h1, by unfold Rep; exact ⟨a, rfl, .inl ⟨vs, .inl upd_same, h2.mono (same_upd g) (Pre.refl _)⟩⟩⟩
  | .dic kvs, .inr ⟨vs, h1, h2⟩, _ => ⟨_, h1, by unfold Rep; exact ⟨a, rfl, .inr ⟨vs, .inl upd_same, h2.mono (same_upd g) (Pre.refl _)⟩⟩⟩
  | .obj c ds, ⟨dx, fs, h1, h2, h3⟩, hl => ⟨_, h1, rep_obj.mpr ⟨a, dx, fs, rfl, upd_same, by rw [h2, hl c ds rfl, List.take_length], h3.mono (same_upd g) (Pre.refl _)⟩⟩
/-- a step, and an object that is new since then is from now on still -/
theorem Stp.still {G G' H H' : Hp} {hs hs' : List Addr} {p : Addr} {o : HO} (S : Stp M G hs H G' hs' H') (h0 : Nt H p) (g : G' p = none) : Stp M G hs H (upd G' p o) hs' H' :=
  ⟨S.gg.trans (same_upd g), fun a u e => by
    by_cases z : a = p
    · subst z; exact .inr h0
    · rw [upd_ne z] at e; exact S.fr a u e, S.hp, S.hf, S.kp, S.dm⟩
def notObj : D → Bool
  | .obj _ _ => false
  | _ => true
theorem notObj_of {d : D} (h : notObj d = true) : ∀ c ds, d = .obj c ds → ds.length = (M.flds c).length := by
  intro c ds e
  subst e
  cases h
/-- a name that owns is read as a thing that stays: it owns no more -/
def frzE (η : Env) (i : Nat) : Env := match η[i]? with
  | some (.o d) => if notObj d = true then η.set i (.v d) else η
  | _ => η
theorem set_get {η : Env} {i j : Nat} {x y : Sl} (h : (η.set i x)[j]? = some y) : (j = i ∧ y = x) ∨ (j ≠ i ∧ η[j]? = some y) := by
  by_cases hji : j = i
  · subst hji
    by_cases hl : j < η.length
    · rw [List.getElem?_set_self hl] at h
      cases h
      exact .inl ⟨rfl, rfl⟩
    · rw [List.getElem?_eq_none (by rw [List.length_set]; omega)] at h
      cases h
  · rw [List.getElem?_set_ne (Ne.symm hji)] at h
    exact .inr ⟨hji, h⟩
theorem Sm.frz {K : PySem.W.Frag} {A : Anc} {σ : L2.St} {H G : Hp} {hs : List Addr} {own : Nat → Addr} {η : Env} {s : DS} (I : Sm K M A σ H G hs own η s) (i : Nat) : ∃ G', Sm K M A σ H G' hs own (frzE η i) s := by
  unfold frzE
  split
  · rename_i d e
    split
    · rename_i hd
      obtain ⟨h1, h2, h3, h4, h5, h6⟩ := I.ow i d e
      obtain ⟨o, ho, hr⟩ := at_rep h3 h2 (notObj_of hd)
      refine ⟨upd G (own i) o, I.sim.still ho h4 h5 h3 (at_no h2 ho), I.stp.still h6 h3, fun j d' ej => ?_, fun j d' ej => ?_, fun j k d1 d2 e1 e2 => ?_, by rw [List.length_set]; exact I.el, fun x d2 ex e2 => ?_⟩
      · rcases set_get ej with ⟨rfl, q⟩ | ⟨_, q⟩
        · cases q
          exact ⟨_, h1, hr⟩
        · obtain ⟨v, k1, k2⟩ := I.pl j d' q
          exact ⟨v, k1, k2.mono (same_upd h3) (Pre.refl _)⟩
      · rcases set_get ej with ⟨rfl, q⟩ | ⟨hji, q⟩
        · cases q
        · obtain ⟨k1, k2, k3, k4, k5, k6⟩ := I.ow j d' q
          refine ⟨k1, k2.mono (same_upd h3) (Pre.refl _) rfl, ?_, k4, k5, k6⟩
          rw [upd_ne (fun z => hji (I.inj j i d' d q e z))]
          exact k3
      · rcases set_get e1 with ⟨_, q⟩ | ⟨_, q⟩
        · cases q
        · rcases set_get e2 with ⟨_, q2⟩ | ⟨_, q2⟩
          · cases q2
          · exact I.inj j k d1 d2 q q2
      · rcases set_get e2 with ⟨_, q⟩ | ⟨_, q⟩
        · cases q
        · exact I.sf x d2 ex q
    · exact ⟨G, I⟩
  · exact ⟨G, I⟩
def frzL (is : List Nat) (η : Env) : Env := is.foldl frzE η
theorem Sm.frzL {K : PySem.W.Frag} {A : Anc} {σ : L2.St} {H : Hp} {hs : List Addr} {own : Nat → Addr} {s : DS} : ∀ (is : List Nat) {G : Hp} {η : Env}, Sm K M A σ H G hs own η s → ∃ G', Sm K M A σ H G' hs own (frzL is η) s
  | [], G, η, I => ⟨G, I⟩
  | i :: is, G, η, I => by
    obtain ⟨G1, I1⟩ := I.frz i
    exact Sm.frzL is I1
def frzB (is : List Nat) (g : Env → DS → F) : Env → DS → F := fun η s => g (frzL is η) s
theorem ds_frz (is : List Nat) (h : DSt M X W st g) : DSt M X W st (frzB is g) := by
  obtain ⟨t, p, h⟩ := h.ex
  refine ⟨t, p, fun A σ H G hs own η s E I hp => ?_⟩
  obtain ⟨G1, I1⟩ := I.frzL is
  exact h A σ H G1 hs own _ s E I1 hp

/-! #### names are set -/
theorem Sm.set {K : PySem.W.Frag} {A : Anc} {σ : L2.St} {H G : Hp} {hs : List Addr} {own : Nat → Addr} {η : Env} {s : DS} {i : Nat} {d : D} {v : V} (I : Sm K M A σ H G hs own η s) (hl : i < σ.length) (hr : Rep K M G hs d v) :
    Sm K M A (σ.set i (some v)) H G hs own (η.set i (.v d)) s where
  sim := I.sim
  stp := I.stp
  pl := fun j e ej => by
    rcases set_get ej with ⟨rfl, q⟩ | ⟨hji, q⟩
    · cases q
      exact ⟨v, List.getElem?_set_self hl, hr⟩
    · rw [List.getElem?_set_ne (Ne.symm hji)]
      exact I.pl j e q
  ow := fun j e ej => by
    rcases set_get ej with ⟨rfl, q⟩ | ⟨hji, q⟩
    · cases q
    · rw [List.getElem?_set_ne (Ne.symm hji)]
      exact I.ow j e q
  inj := fun j k d1 d2 e1 e2 => by
    rcases set_get e1 with ⟨_, q⟩ | ⟨_, q⟩
    · cases q
    · rcases set_get e2 with ⟨_, q2⟩ | ⟨_, q2⟩
      · cases q2
      · exact I.inj j k d1 d2 q q2
  el := by rw [List.length_set, List.length_set]; exact I.el
  sf := fun x d2 ex e2 => by
    rcases set_get e2 with ⟨_, q⟩ | ⟨_, q⟩
    · cases q
    · exact I.sf x d2 ex q
/-- a thing that no one else has -/
structure Fr1 (K : PySem.W.Frag) (M : Mp) (G : Hp) (hs : List Addr) (H : Hp) (d : D) (p : Addr) : Prop where
  at_ : At K M G hs H p d
  g : G p = none
  h : p ∉ hs
  t : ¬ inTab M p
theorem Sm.setO {K : PySem.W.Frag} {A : Anc} {σ : L2.St} {H G : Hp} {hs : List Addr} {own : Nat → Addr} {η : Env} {s : DS} {i : Nat} {d : D} {p : Addr} (I : Sm K M A σ H G hs own η s) (hi0 : 0 < i) (hl : i < σ.length) (hr : Fr1 K M G hs H d p) (ha : Nt A.H p)
    (ne : ∀ j e, j ≠ i → η[j]? = some (.o e) → own j ≠ p) :
    Sm K M A (σ.set i (some (.ref p))) H G hs (fun j => if j = i then p else own j) (η.set i (.o d)) s where
  sim := I.sim
  stp := I.stp
  pl := fun j e ej => by
    rcases set_get ej with ⟨rfl, q⟩ | ⟨hji, q⟩
    · cases q
    · rw [List.getElem?_set_ne (Ne.symm hji)]
      exact I.pl j e q
  ow := fun j e ej => by
    rcases set_get ej with ⟨rfl, q⟩ | ⟨hji, q⟩
    · cases q
      rw [List.getElem?_set_self hl, if_pos rfl]
      exact ⟨rfl, hr.at_, hr.g, hr.h, hr.t, ha⟩
    · rw [List.getElem?_set_ne (Ne.symm hji), if_neg hji]
      exact I.ow j e q
  inj := fun j k d1 d2 e1 e2 => by
    rcases set_get e1 with ⟨h1, q⟩ | ⟨h1, q⟩
    · rcases set_get e2 with ⟨h2, q2⟩ | ⟨h2, q2⟩
      · rw [h1, h2]
        exact fun _ => rfl
      · rw [if_pos h1, if_neg h2]
        exact fun z => absurd z.symm (ne k d2 h2 q2)
    · rcases set_get e2 with ⟨h2, q2⟩ | ⟨h2, q2⟩
      · rw [if_neg h1, if_pos h2]
        exact fun z => absurd z (ne j d1 h1 q)
      · rw [if_neg h1, if_neg h2]
        exact I.inj j k d1 d2 q q2
  el := by rw [List.length_set, List.length_set]; exact I.el
  sf := fun x d2 ex e2 => by
    rcases set_get e2 with ⟨h0, q⟩ | ⟨h0, q⟩
    · omega
    · rw [if_neg h0]
      exact I.sf x d2 ex q
/-- what is owned is other than what is new -/
theorem Sm.apart {K : PySem.W.Frag} {A : Anc} {σ : L2.St} {H G : Hp} {hs : List Addr} {own : Nat → Addr} {η : Env} {s : DS} {p : Addr} (I : Sm K M A σ H G hs own η s) (h : Nt H p) : ∀ j e, η[j]? = some (.o e) → own j ≠ p := fun j e ej z => by
  obtain ⟨o, e1, no⟩ := (I.ow j e ej).2.1.some
  rw [z] at e1
  exact h.no e1 no
end

/-! ### expressions that make a new thing -/
section
variable (M : Mp) (X : Cx) (W : WX)
abbrev FEx (t : TE) (f : Env → DS → R D) : Prop := ∀ (A : Anc) (σ : L2.St) (H G : Hp) (hs : List Addr) (own : Nat → Addr) (η : Env) (s : DS) (Q : VK), Sm X.K M A σ H G hs own η s →
    RPost X.K M σ W G hs H (f η s) (fun d G' hs' _ H' => ∀ p, Nt H p → Fr1 X.K M G' hs' H' d p → Q (.ref p) H') → t σ H Q
structure DF (e : Expr) (f : Env → DS → R D) : Prop where
  ex : ∃ t, PE X e t ∧ FEx M X W t f
end
section
variable {M : Mp} {X : Cx} {W : WX} {e : Expr} {es : List Expr} {f : Env → DS → R D} {g : Env → DS → R (List D)} {pos : Pos}
/-- .. as a thing that stays -/
def calmD (f : Env → DS → R D) : Env → DS → R D := fun η s => (f η s).bind fun d s1 => if notObj d = true then .ok d s1 else .bad
theorem DF.de {e : Expr} {f : Env → DS → R D} (h : DF M X W e f) : DE M X W e (calmD f) := by
  obtain ⟨t, p, h⟩ := h.ex
  refine ⟨t, p, fun A σ H G hs own η s Q I hp => h A σ H G hs own η s Q I ?_⟩
  unfold calmD at hp
  cases q : f η s with
  | ok d s1 =>
    rw [q] at hp
    have hp2 : RPost X.K M σ W G hs H (if notObj d = true then R.ok d s1 else .bad) (fun d G' hs' _ H' => ∀ v, Rep X.K M G' hs' d v → Q v H') := hp
    intro G1 hs1 H1 S1 J1 p hp0 fr
    by_cases hn : notObj d = true
    · rw [if_pos hn] at hp2
      obtain ⟨o, ho, hr⟩ := at_rep fr.g fr.at_ (notObj_of hn)
      exact hp2 _ hs1 H1 (S1.still hp0 fr.g) (J1.still ho fr.h fr.t fr.g (at_no fr.at_ ho)) _ hr
    · rw [if_neg hn] at hp2
      exact hp2.elim
  | ex c p s1 => rw [q] at hp; exact hp
  | bad => rw [q] at hp; exact hp
theorem df_lst (h : DA M X W es g) : DF M X W (.List es pos) (lstD g) := by
  obtain ⟨t, p, h⟩ := h.ex
  refine ⟨_, pe_lst p, fun A σ H G hs own η s Q I hp => ?_⟩
  refine h A σ H G hs own η s _ I (hp.bind.mono fun ds G1 hs1 s1 H1 S1 J1 h1 vs hvs => ?_)
  split at h1
  · rename_i hl
    refine ⟨by rw [line_, ← hvs.length]; exact hl, fun p hp => ?_⟩
    have k : ∀ a u, H1 a = some u → upd H1 p (.lst vs) a = some u := fun a u e => by rw [upd_ne (ne_of_none e hp)]; exact e
    exact h1 _ _ _ (Stp.extH k) (J1.extH k) p (S1.dm p (nt_none hp)) ⟨⟨vs, upd_same, hvs⟩, (J1.free hp).1, (J1.free hp).2.1, (J1.free hp).2.2⟩
  · exact h1.elim

/-! ### names set -/
theorem FPost.put {K : PySem.W.Frag} {A : Anc} {σ : L2.St} {H G : Hp} {hs : List Addr} {own : Nat → Addr} {η : Env} {s : DS} {E : Ends} {i : Nat} {d : D} {v : V} (I : Sm K M A σ H G hs own η s) (hr : Rep K M G hs d v) (h : FPost K M A W E (setF η i d s)) : E.nx (σ.set i (some v)) H := by
  unfold setF at h
  split at h
  · rename_i hl
    exact h _ H G hs own (I.set (by rw [← I.el]; exact hl) hr)
  · exact h.elim
theorem FPost.putO {K : PySem.W.Frag} {A : Anc} {σ : L2.St} {H0 H G G0 : Hp} {hs0 hs : List Addr} {own : Nat → Addr} {η : Env} {s0 s : DS} {E : Ends} {i : Nat} {d : D} {p : Addr} (I0 : Sm K M A σ H0 G0 hs0 own η s0) (S : Stp M G0 hs0 H0 G hs H) (J : Sim K M G hs s H) (h0 : Nt H0 p) (hr : Fr1 K M G hs H d p)
    (h : FPost K M A W E (setOF η i d s)) : E.nx (σ.set i (some (.ref p))) H := by
  unfold setOF at h
  split at h
  · rename_i hl
    have I := I0.step S J
    exact h _ H G hs _ (I.setO hl.1 (by rw [← I.el]; exact hl.2) hr (I0.stp.dm p h0) (fun j e _ ej => I0.apart h0 j e ej))
  · exact h.elim
theorem ds_set (i : Nat) {x : Str} {e : Expr} {fe : Env → DS → R D} {pos' pos : Pos} (hN : X.N.Nodup) (he : DE M X W e fe) (hi : X.N[i]? = some x := by rfl) (hx : Loc X.env.scope x := by first | exact Or.inl rfl | exact Or.inr rfl)
    (hs : swapsWith e (some (.Name x pos')) pos.line X.env = pure false := by rfl) (hf : X.fn x = true ∨ X.env.scope.names.lookup x = some .local := by first | exact .inl rfl | exact .inr rfl) : DSt M X W (.Assign [.Name x pos'] e pos) (setB i fe) := by
  obtain ⟨t, p, h⟩ := he.ex
  refine ⟨_, ps_set hN hi hx p hs hf, fun A σ H G hs own η s E I hp => ?_⟩
  exact h A σ H G hs own η s _ I ((hp.lift I).mono fun d G1 hs1 s1 H1 S1 J1 h1 v hv => FPost.put (I.step S1 J1) hv h1)
theorem ds_setO (i : Nat) {x : Str} {e : Expr} {fe : Env → DS → R D} {pos' pos : Pos} (hN : X.N.Nodup) (he : DF M X W e fe) (hi : X.N[i]? = some x := by rfl) (hx : Loc X.env.scope x := by first | exact Or.inl rfl | exact Or.inr rfl)
    (hs : swapsWith e (some (.Name x pos')) pos.line X.env = pure false := by rfl) (hf : X.fn x = true ∨ X.env.scope.names.lookup x = some .local := by first | exact .inl rfl | exact .inr rfl) : DSt M X W (.Assign [.Name x pos'] e pos) (setOB i fe) := by
  obtain ⟨t, p, h⟩ := he.ex
  refine ⟨_, ps_set hN hi hx p hs hf, fun A σ H G hs own η s E I hp => ?_⟩
  exact h A σ H G hs own η s _ I ((hp.lift I).mono fun d G1 hs1 s1 H1 S1 J1 h1 p h0 fr => FPost.putO I S1 J1 h0 fr h1)
/-- x op= e, x a plain name -/
def augB (i : Nat) (o : D → D → Option D) (fe : Env → DS → R D) : Env → DS → F := setB i (bopD o (vD i) fe)
structure IpD (M : Mp) (X : Cx) (op : Operator) (o : D → D → Option D) : Prop where
  ex : ∃ r, PIp X op r ∧ OEx M X r o
theorem ds_aug (i : Nat) {x : Str} {e : Expr} {fe : Env → DS → R D} {op : Operator} {o : D → D → Option D} {pos' pos : Pos} (hN : X.N.Nodup) (ho : IpD M X op o) (he : DB M X W e fe) (hi : X.N[i]? = some x := by rfl) (hx : Loc X.env.scope x := by first | exact Or.inl rfl | exact Or.inr rfl)
    (hf : X.fn x = true ∨ X.env.scope.names.lookup x = some .local := by first | exact .inl rfl | exact .inr rfl) : DSt M X W (.AugAssign (.Name x pos') op e pos) (augB i o fe) := by
  obtain ⟨r, hr, k⟩ := ho.ex
  obtain ⟨t, p, h⟩ := he.ex
  refine ⟨_, ps_aug hN hi hx p hr hf, fun A σ H G hs own η s E I hp => ?_⟩
  have hp2 : RPost X.K M σ W G hs H (bopD o (vD i) fe η s) (fun d _ _ s1 _ => FPost X.K M A W E (setF η i d s1)) := FPost.lift I hp
  obtain ⟨d, e1, k1⟩ := hp2.bind.var
  obtain ⟨v, h1, h2⟩ := I.pl i d e1
  refine ⟨v, h1, h A σ H G hs own η s _ I ((k1 G hs H (Stp.refl _ _ _ _) I.sim).bind.mono fun y G1 hs1 s1 H1 S1 J1 h3 u hu => ?_)⟩
  obtain ⟨z, ez, k2⟩ := h3.ofO
  refine k G1 hs1 s1 H1 _ _ z v u _ J1 ((BV.step S1 (.inl h2)).read J1) (hu.read J1) ez fun G2 H2 S2 J2 w hw => ?_
  exact FPost.put ((I.step S1 J1).step S2 J2) hw (k2 G2 hs1 H2 S2 J2)
end
end DL
set_option Elab.async false
set_option linter.all false
set_option maxRecDepth 100000
set_option maxHeartbeats 2000000
namespace DL
open PySem PySem.Spec PyProof.Rows L2

section
variable {M : Mp} {X : Cx} {W : WX}
def opAug : D → D → Option D
  | .int a, .int b => some (.int (a + b))
  | .str a, .str b => if a.length + b.length ≤ 16777216 then some (.str (a ++ b)) else none
  | _, _ => none
theorem id_add : IpD M X .Add opAug := by
  refine ⟨_, (show PIp X .Add _ from iop_add.or iop_add_str), fun G hs s H x y z v u Q J hx hy e k => ?_⟩
  unfold opAug at e
  split at e
  · cases e
    exact .inl ⟨_, _, hx.int, hy.int, k G H (Stp.refl _ _ _ _) J _ (rep_int.mpr rfl)⟩
  · split at e
    · rename_i hl
      cases e
      exact .inr ⟨_, _, hx.str, hy.str, by rw [line_]; exact hl, k G H (Stp.refl _ _ _ _) J _ (rep_str.mpr rfl)⟩
    · cases e
  · cases e
theorem id_sub : IpD M X .Sub opSub := by
  refine ⟨_, (show PIp X .Sub _ from iop_sub), fun G hs s H x y z v u Q J hx hy e k => ?_⟩
  unfold opSub at e
  split at e
  · cases e
    exact ⟨_, _, hx.int, hy.int, k G H (Stp.refl _ _ _ _) J _ (rep_int.mpr rfl)⟩
  · cases e
noncomputable def opMulI : D → D → Option D
  | .int a, .int b => if (small64 a || small64 b) = true then some (.int (a * b)) else none
  | _, _ => none
theorem id_mul : IpD M X .Mult opMulI := by
  refine ⟨_, (show PIp X .Mult _ from iop_mul), fun G hs s H x y z v u Q J hx hy e k => ?_⟩
  unfold opMulI at e
  split at e
  · split at e
    · rename_i hl
      cases e
      refine ⟨_, _, hx.int, hy.int, ?_, k G H (Stp.refl _ _ _ _) J _ (rep_int.mpr rfl)⟩
      have p : (2 : Int) ^ 64 = 18446744073709551616 := by decide
      unfold CMul
      rw [p]
      simpa [small64, Bool.or_eq_true, cl_iff] using hl
    · cases e
  · cases e
theorem id_mod : IpD M X .Mod opMod := by
  refine ⟨_, (show PIp X .Mod _ from iop_mod), fun G hs s H x y z v u Q J hx hy e k => ?_⟩
  unfold opMod at e
  split at e
  · split at e
    · rename_i hl
      cases e
      exact ⟨_, _, hx.int, hy.int, hl, k G H (Stp.refl _ _ _ _) J _ (rep_int.mpr rfl)⟩
    · cases e
  · cases e

/-! ### raise -/
abbrev veB : List Value := [.type "ValueError", .type "Exception", .type "BaseException", .type "object"]
structure ExcOk (K : PySem.W.Frag) (mg : Str → Option Value) (M : Mp) (c : Nat) (x : Str) : Prop where
  g : mg x = some (.ref (M.exc c))
  x : PySem.W.excIn K (M.exc c) veB "ValueError.__new__" = true
  k : PySem.W.keepIn K (.ref (M.exc c)) = true
  b : PySem.W.subIn K (.ref (M.exc c)) (.type "BaseException") = some true
  t : PySem.W.typeIn K (.ref (M.exc c)) = some (.type "type")
/-- X(e), e any value -/
theorem pmk_arg {x : Str} {C : Addr} {bmB : List Value} {B newId initId : String} {a : Expr} {ta : TA} {p pos : Pos} (F : ExcBaseFacts B newId initId bmB) (q : PySem.W.excIn X.K C bmB newId = true) (gC : X.mg x = some (.ref C)) (kC : PySem.W.keepIn X.K (.ref C) = true) (r : Raises X (.ref C)) (ha : PA X [a] ta) (hg : Gl X x)
    (hdb : (x == ("__debug__" : Str)) = false := by decide) (he : starEach [a] X.env = (false, eval a X.env) :: starEach [] X.env := by rfl) (hpl : (backTo pos (starEach [] X.env)).any (·.1) = false := by rfl) :
    PMk X (.Call (.Name x p) [a] [] pos) (fun σ H Q => ta σ H fun vs H1 => vs.length = 1 ∧ Q (.ref C) none H1) := by
  intro pins s σ H Q I h
  refine wpAny_Call_Name_kw (ld_glob I hg gC ?_ hdb)
  refine PySem.W.callWith_K (h₀ := X.base) I.ok.mod.kin kC (thn (ha.run pos pins s σ H _ I h) fun us s1 hh => ?_) he hpl
  obtain ⟨vs, H1, I1, r1, ev, q1⟩ := hh
  refine ⟨I1.kIn, ?_⟩
  cases r1 with
  | nil => cases ev
  | cons ru rn =>
    rename_i v u vs' us'
    cases rn with
    | cons _ _ => simp at ev
    | nil =>
    show wpAny _ _ (call (.ref C) [u]) _ _ _
    obtain ⟨bm, N, nm, qn, bs, hdct, sn, sub, ab, col, dd, k0, k1, k2, k3, k5, mN, hC, hN, hni, T⟩ := exc_obj I1.kIn q
    refine wpAny_call_exc_subT F T hC hN hni (fun h' e hm => ?_) (by show 1 ≤ sizeLine; rw [sizeLine_eq]; omega)
    exact mk_of I1 hm r q1 (I1.hok.gone hm.new)
def raiseA (c : Nat) (g : Env → DS → R (List D)) : Env → DS → F := fun η s => (g η s).toF η fun _ s1 => .ex c [] η s1
theorem one_len {f : Env → DS → R D} : ∀ η s ds s', consA f nilA η s = .ok ds s' → ds.length = 1 := by
  intro η s ds s' h
  unfold consA nilA at h
  cases q : f η s with
  | ok d s1 => rw [q] at h; cases h; rfl
  | ex _ _ _ => rw [q] at h; cases h
  | bad => rw [q] at h; cases h
theorem ds_raise {c : Nat} {x : Str} {a : Expr} {g : Env → DS → R (List D)} {p pos pos2 : Pos} (E : ExcOk X.K X.mg M c x) (tk : Takes X W) (hc : X.calm = true) (ha : DA M X W [a] g) (hg : Gl X x := by rfl)
    (hdb : (x == ("__debug__" : Str)) = false := by decide) (he : starEach [a] X.env = (false, eval a X.env) :: starEach [] X.env := by rfl) (hpl : (backTo pos (starEach [] X.env)).any (·.1) = false := by rfl)
    (h1 : ∀ η s ds s', g η s = .ok ds s' → ds.length = 1 := by exact one_len) :
    DSt M X W (.Raise (some (.Call (.Name x p) [a] [] pos)) none pos2) (raiseA c g) := by
  obtain ⟨t, pa, h⟩ := ha.ex
  refine ⟨_, ps_raise hc tk (pmk_arg PySem.F.excBase_ValueError E.x E.g E.k (raises_own E.b E.t) pa hg hdb he hpl), fun A σ H G hs own η s En I hp => ?_⟩
  refine h A σ H G hs own η s _ I ?_
  have hp2 := FPost.lift I hp
  cases q : g η s with
  | ok ds s1 =>
    rw [q] at hp2
    intro G1 hs1 H1 S1 J1 vs hvs
    refine ⟨by rw [← hvs.length]; exact h1 η s ds s1 q, ?_⟩
    exact hp2 G1 hs1 H1 S1 J1 σ H1 G1 hs1 own (.ref (M.exc c)) none (I.step S1 J1) ⟨rfl, .inl ⟨rfl, rfl⟩⟩
  | ex c p s1 => rw [q] at hp2; exact hp2
  | bad => rw [q] at hp2; exact hp2

/-! ### targets -/
/-- only those names have changed -/
structure Chg (is : List Nat) (σ σ' : L2.St) : Prop where
  len : σ'.length = σ.length
  out : ∀ j, j ∉ is → σ'[j]? = σ[j]?
theorem Chg.refl (is : List Nat) (σ : L2.St) : Chg is σ σ := ⟨rfl, fun _ _ => rfl⟩
theorem Chg.trans {is js : List Nat} {σ σ1 σ2 : L2.St} (h : Chg is σ σ1) (k : Chg js σ1 σ2) : Chg (is ++ js) σ σ2 := ⟨k.len.trans h.len, fun j n => by
  rw [List.mem_append, not_or] at n
  rw [k.out j n.2, h.out j n.1]⟩
structure DG (M : Mp) (X : Cx) (tg : Expr) (f : D → Env → Option Env) (is : List Nat) : Prop where
  ex : ∃ g, PG X tg g ∧ ∀ (A : Anc) (σ : L2.St) (H G : Hp) (hs : List Addr) (own : Nat → Addr) (η η' : Env) (s : DS) (d : D) (v : V) (Q : L2.St → Hp → Prop), Sm X.K M A σ H G hs own η s → Rep X.K M G hs d v → f d η = some η' →
    (∀ σ', Sm X.K M A σ' H G hs own η' s → Chg is σ σ' → Q σ' H) → g v σ H Q
structure DGs (M : Mp) (X : Cx) (tgs : List Expr) (f : List D → Env → Option Env) (is : List Nat) (n : Nat) : Prop where
  ex : ∃ g, PGs X tgs g ∧ ∀ (A : Anc) (σ : L2.St) (H G : Hp) (hs : List Addr) (own : Nat → Addr) (η η' : Env) (s : DS) (ds : List D) (vs : List V) (Q : L2.St → Hp → Prop), Sm X.K M A σ H G hs own η s → RepL X.K M G hs ds vs → f ds η = some η' →
    (∀ σ', Sm X.K M A σ' H G hs own η' s → Chg is σ σ' → Q σ' H) → g vs σ H Q
  len : ∀ ds η η', f ds η = some η' → ds.length = n
def gN (i : Nat) : D → Env → Option Env := fun d η => if i < η.length then some (η.set i (.v d)) else none
def gsN : List D → Env → Option Env := fun ds η => match ds with
  | [] => some η
  | _ => none
def gsC (f : D → Env → Option Env) (g : List D → Env → Option Env) : List D → Env → Option Env := fun ds η => match ds with
  | d :: r => (f d η).bind (g r)
  | [] => none
def gT (g : List D → Env → Option Env) : D → Env → Option Env := fun d η => match d with
  | .tup ds => g ds η
  | _ => none
theorem dg_name (i : Nat) {x : Str} {pos : Pos} (hN : X.N.Nodup) (hi : X.N[i]? = some x := by rfl) (hx : Loc X.env.scope x := by first | exact Or.inl rfl | exact Or.inr rfl)
    (hf : X.fn x = true ∨ X.env.scope.names.lookup x = some .local := by first | exact .inl rfl | exact .inr rfl) : DG M X (.Name x pos) (gN i) [i] := by
  refine ⟨_, pg_name hN hi hx hf, fun A σ H G hs own η η' s d v Q I hr e k => ?_⟩
  unfold gN at e
  split at e
  · rename_i hl
    cases e
    exact k _ (I.set (by rw [← I.el]; exact hl) hr) ⟨List.length_set, fun j n => List.getElem?_set_ne (fun z => n (by rw [z]; exact List.mem_singleton_self _))⟩
  · cases e
theorem dgs_nil : DGs M X [] gsN [] 0 := by
  refine ⟨⟨_, pgs_nil, fun A σ H G hs own η η' s ds vs Q I hr e k => ?_⟩, fun ds η η' e => ?_⟩
  · unfold gsN at e
    split at e
    · cases e
      exact ⟨repL_nil.mp hr, k _ I (Chg.refl _ _)⟩
    · cases e
  · unfold gsN at e
    split at e
    · rfl
    · cases e
theorem dgs_cons {e : Expr} {es : List Expr} {f : D → Env → Option Env} {g : List D → Env → Option Env} {n : Nat} {is js : List Nat} (h1 : DG M X e f is) (h2 : DGs M X es g js n) (hs : (assignEach (e :: es) X.env).map (·.2) = assign e X.env :: (assignEach es X.env).map (·.2) := by rfl) : DGs M X (e :: es) (gsC f g) (is ++ js) (n + 1) := by
  obtain ⟨t, p, h⟩ := h1.ex
  obtain ⟨u, q, k⟩ := h2.ex
  refine ⟨⟨_, pgs_cons p q hs, fun A σ H G hs own η η' s ds vs Q I hr e kq => ?_⟩, fun ds η η' e => ?_⟩
  · unfold gsC at e
    split at e
    · rename_i d r
      rw [repL_cons] at hr
      obtain ⟨v, vr, rfl, hv, hvr⟩ := hr
      rw [Option.bind_eq_some_iff] at e
      obtain ⟨η1, e1, e2⟩ := e
      exact ⟨v, vr, rfl, h A σ H G hs own η η1 s d v _ I hv e1 fun σ1 I1 c1 => k A σ1 H G hs own η1 η' s r vr Q I1 hvr e2 fun σ2 I2 c2 => kq σ2 I2 (c1.trans c2)⟩
    · cases e
  · unfold gsC at e
    split at e
    · rw [Option.bind_eq_some_iff] at e
      obtain ⟨η1, e1, e2⟩ := e
      rw [List.length_cons, h2.len _ _ _ e2]
    · cases e
theorem dg_tup {es : List Expr} {kk : Nat} {pos : Pos} {g : List D → Env → Option Env} {n : Nat} {is : List Nat} (hc : X.calm = true) (h : DGs M X es g is n) (hn : (assignEach es X.env).length = n := by rfl) (hst : (assignEach es X.env).findIdx? (·.1) = none := by rfl) : DG M X (.Tuple es kk pos) (gT g) is := by
  obtain ⟨t, p, k⟩ := h.ex
  refine ⟨_, pg_tup hc p hn hst, fun A σ H G hs own η η' s d v Q I hr e kq => ?_⟩
  unfold gT at e
  split at e
  · obtain ⟨a, vs, rfl, h1, h2⟩ := rep_tup.mp hr
    exact ⟨a, vs, rfl, same_seqT I.sim.sub h1, by rw [← h2.length]; exact h.len _ _ _ e, k A σ H G hs own η η' s _ vs Q I h2 e fun σ' I' c => kq σ' I' c⟩
  · cases e
/-- targets = e, e a tuple's value -/
def asgB (f : D → Env → Option Env) (fe : Env → DS → R D) : Env → DS → F := fun η s => (fe η s).toF η fun d s1 => match f d η with
  | some η' => .nx η' s1
  | none => .bad
theorem ds_asg {tg e : Expr} {f : D → Env → Option Env} {fe : Env → DS → R D} {pos : Pos} (he : DE M X W e fe) {is : List Nat} (hg : DG M X tg f is) (hs : swapsWithSole [tg] e pos.line X.env = pure false := by rfl) (hw : swappedStores [tg] e X.env = pure none := by rfl)
    (h1 : (assignEach [tg] X.env).map (·.2) = [assign tg X.env] := by rfl) : DSt M X W (.Assign [tg] e pos) (asgB f fe) := by
  obtain ⟨t, p, h⟩ := he.ex
  obtain ⟨g, pg, k⟩ := hg.ex
  refine ⟨_, ps_asg p pg hs hw h1, fun A σ H G hs own η s E I hp => ?_⟩
  refine h A σ H G hs own η s _ I ((hp.lift I).mono fun d G1 hs1 s1 H1 S1 J1 h2 v hv => ?_)
  cases q : f d η with
  | none => rw [q] at h2; exact h2.elim
  | some η' =>
    rw [q] at h2
    exact k A σ H1 G1 hs1 own η η' s1 d v _ (I.step S1 J1) hv q fun σ' I' _ => h2 σ' H1 G1 hs1 own I'
/-- x, y = a, b and three -/
def parB (is : List Nat) (fa : Env → DS → R (List D)) : Env → DS → F := fun η s => (fa η s).toF η fun ds s1 => putAll is ds η s1
where putAll : List Nat → List D → Env → DS → F
  | [], [], η, s => .nx η s
  | i :: is, d :: ds, η, s => if i < η.length then putAll is ds (η.set i (.v d)) s else .bad
  | _, _, _, _ => .bad
theorem ds_par2 (i j : Nat) {x y : Str} {a b : Expr} {fa : Env → DS → R (List D)} {px py pt pt2 pos : Pos} {kt k2 : Nat} (hc : X.calm = true) (hN : X.N.Nodup) (ha : DA M X W [a, b] fa) (hi : X.N[i]? = some x := by rfl) (hj : X.N[j]? = some y := by rfl) (hij : i ≠ j := by decide)
    (hx : X.env.scope.names.lookup x = some .local := by rfl) (hy : X.env.scope.names.lookup y = some .local := by rfl)
    (hw : swappedStores [.Tuple [.Name x px, .Name y py] kt pt] (.Tuple [a, b] k2 pt2) X.env = pure (some [x, y]) := by rfl)
    (hs : swapsWithSole [.Tuple [.Name x px, .Name y py] kt pt] (.Tuple [a, b] k2 pt2) pos.line X.env = pure false := by rfl) :
    DSt M X W (.Assign [.Tuple [.Name x px, .Name y py] kt pt] (.Tuple [a, b] k2 pt2) pos) (parB [i, j] fa) := by
  obtain ⟨t, p, h⟩ := ha.ex
  refine ⟨_, ps_par hc hN hi hj hij hx hy p hw hs, fun A σ H G hs own η s E I hp => ?_⟩
  refine h A σ H G hs own η s _ I ((hp.lift I).mono fun ds G1 hs1 s1 H1 S1 J1 h1 vs hvs => ?_)
  have I1 := I.step S1 J1
  match ds, h1 with
  | [d1, d2], h1 =>
    rw [repL_cons] at hvs
    obtain ⟨v1, vr, rfl, hv1, hvs⟩ := hvs
    rw [repL_cons] at hvs
    obtain ⟨v2, vr, rfl, hv2, hvs⟩ := hvs
    rw [repL_nil] at hvs
    subst hvs
    refine ⟨v1, v2, rfl, ?_⟩
    simp only [parB.putAll] at h1
    split at h1
    · rename_i l1
      split at h1
      · rename_i l2
        have I2 := I1.set (by rw [← I1.el]; exact l1) hv1
        exact h1 _ H1 G1 hs1 own (I2.set (by rw [← I2.el]; exact l2) hv2)
      · exact h1.elim
    · exact h1.elim
  | [], h1 => exact (show False from h1).elim
  | [d], h1 =>
    simp only [parB.putAll] at h1
    split at h1 <;> exact h1.elim
  | d1 :: d2 :: d3 :: r, h1 =>
    simp only [parB.putAll] at h1
    split at h1
    · split at h1 <;> exact h1.elim
    · exact h1.elim
theorem ds_par3 (i j l : Nat) {x y z : Str} {a b c : Expr} {fa : Env → DS → R (List D)} {px py pz pt pt2 pos : Pos} {kt k2 : Nat} (hc : X.calm = true) (hN : X.N.Nodup) (ha : DA M X W [a, b, c] fa) (hi : X.N[i]? = some x := by rfl) (hj : X.N[j]? = some y := by rfl) (hl : X.N[l]? = some z := by rfl) (hij : i ≠ j := by decide) (hil : i ≠ l := by decide) (hjl : j ≠ l := by decide)
    (hx : X.env.scope.names.lookup x = some .local := by rfl) (hy : X.env.scope.names.lookup y = some .local := by rfl) (hz : X.env.scope.names.lookup z = some .local := by rfl)
    (hw : swappedStores [.Tuple [.Name x px, .Name y py, .Name z pz] kt pt] (.Tuple [a, b, c] k2 pt2) X.env = pure (some [x, y, z]) := by rfl)
    (hs : swapsWithSole [.Tuple [.Name x px, .Name y py, .Name z pz] kt pt] (.Tuple [a, b, c] k2 pt2) pos.line X.env = pure false := by rfl) :
    DSt M X W (.Assign [.Tuple [.Name x px, .Name y py, .Name z pz] kt pt] (.Tuple [a, b, c] k2 pt2) pos) (parB [i, j, l] fa) := by
  obtain ⟨t, p, h⟩ := ha.ex
  refine ⟨_, ps_par3 hc hN hi hj hl hij hil hjl hx hy hz p hw hs, fun A σ H G hs own η s E I hp => ?_⟩
  refine h A σ H G hs own η s _ I ((hp.lift I).mono fun ds G1 hs1 s1 H1 S1 J1 h1 vs hvs => ?_)
  have I1 := I.step S1 J1
  match ds, h1 with
  | [d1, d2, d3], h1 =>
    rw [repL_cons] at hvs
    obtain ⟨v1, vr, rfl, hv1, hvs⟩ := hvs
    rw [repL_cons] at hvs
    obtain ⟨v2, vr, rfl, hv2, hvs⟩ := hvs
    rw [repL_cons] at hvs
    obtain ⟨v3, vr, rfl, hv3, hvs⟩ := hvs
    rw [repL_nil] at hvs
    subst hvs
    refine ⟨v1, v2, v3, rfl, ?_⟩
    simp only [parB.putAll] at h1
    split at h1
    · rename_i l1
      split at h1
      · rename_i l2
        split at h1
        · rename_i l3
          have I2 := I1.set (by rw [← I1.el]; exact l1) hv1
          have I3 := I2.set (by rw [← I2.el]; exact l2) hv2
          exact h1 _ H1 G1 hs1 own (I3.set (by rw [← I3.el]; exact l3) hv3)
        · exact h1.elim
      · exact h1.elim
    · exact h1.elim
  | [], h1 => exact (show False from h1).elim
  | [d], h1 =>
    simp only [parB.putAll] at h1
    split at h1 <;> exact h1.elim
  | [d, d'], h1 =>
    simp only [parB.putAll] at h1
    split at h1
    · split at h1 <;> exact h1.elim
    · exact h1.elim
  | d1 :: d2 :: d3 :: d4 :: r, h1 =>
    simp only [parB.putAll] at h1
    split at h1
    · split at h1
      · split at h1 <;> exact h1.elim
      · exact h1.elim
    · exact h1.elim
end
end DL
set_option Elab.async false
set_option linter.all false
set_option maxRecDepth 100000
set_option maxHeartbeats 2000000
namespace DL
open PySem PySem.Spec PyProof.Rows L2

/-! ### places: what may be written -/
inductive Plc where
  | slot (i : Nat) | han (k : Nat)
/-- the place stands at that value -/
def PV (own : Nat → Addr) (hs : List Addr) (η : Env) : Plc → V → Prop
  | .slot i, v => v = .ref (own i) ∧ ∃ d, η[i]? = some (.o d)
  | .han k, v => ∃ a, v = .ref a ∧ hs[k]? = some a
theorem PV.step {own : Nat → Addr} {hs hs' : List Addr} {η : Env} (p : Pre hs hs') : ∀ {pl : Plc} {v : V}, PV own hs η pl v → PV own hs' η pl v
  | .slot i, v, h => h
  | .han k, v, ⟨a, h1, h2⟩ => ⟨a, h1, p _ _ h2⟩
def plcD (pl : Plc) (η : Env) (s : DS) : Option D := match pl with
  | .slot i => match η[i]? with
    | some (.o d) => some d
    | _ => none
  | .han k => s[k]?
def plcSet (pl : Plc) (d : D) (η : Env) (s : DS) : F := match pl with
  | .slot i => .nx (η.set i (.o d)) s
  | .han k => .nx η (s.set k d)
def wrF (pl : Plc) (u : D → Option D) (η : Env) (s : DS) : F := match plcD pl η s with
  | some d => match u d with
    | some d' => plcSet pl d' η s
    | none => .bad
  | none => .bad
section
variable {M : Mp} {X : Cx} {W : WX}
structure DP (M : Mp) (X : Cx) (W : WX) (e : Expr) (f : Env → DS → R Plc) : Prop where
  ex : ∃ t, PE X e t ∧ ∀ (A : Anc) (σ : L2.St) (H G : Hp) (hs : List Addr) (own : Nat → Addr) (η : Env) (s : DS) (Q : VK), Sm X.K M A σ H G hs own η s →
    RPost X.K M σ W G hs H (f η s) (fun pl G' hs' _ H' => ∀ v, PV own hs' η pl v → Q v H') → t σ H Q
def plV (i : Nat) : Env → DS → R Plc := fun η s => match η[i]? with
  | some (.o _) => .ok (.slot i) s
  | some (.v (.han k)) => .ok (.han k) s
  | _ => .bad
def plE (f : Env → DS → R D) : Env → DS → R Plc := fun η s => (f η s).bind fun d s1 => match d with
  | .han k => .ok (.han k) s1
  | _ => .bad
theorem dp_v (i : Nat) {x : Str} {pos : Pos} (hN : X.N[i]? = some x := by rfl) (hv : Vis X.env.scope x := by first | exact Or.inl rfl | exact Or.inr (Or.inl rfl) | exact Or.inr (Or.inr rfl)) (hd : (x == ("__debug__" : Str)) = false := by decide)
    (hcd : (x == ("__classdict__" : Str)) = false := by decide) : DP M X W (.Name x pos) (plV i) := by
  refine ⟨_, pe_var hN hv hd hcd, fun A σ H G hs own η s Q I r => ?_⟩
  unfold plV at r
  split at r
  · rename_i d e
    exact ⟨_, (I.ow i d e).1, r G hs H (Stp.refl _ _ _ _) I.sim _ ⟨rfl, d, e⟩⟩
  · rename_i k e
    obtain ⟨v, h1, h2⟩ := I.pl i _ e
    exact ⟨v, h1, r G hs H (Stp.refl _ _ _ _) I.sim _ (rep_han.mp h2)⟩
  · exact r.elim
theorem dp_e {e : Expr} {f : Env → DS → R D} (h : DE M X W e f) : DP M X W e (plE f) := by
  obtain ⟨t, p, h⟩ := h.ex
  refine ⟨t, p, fun A σ H G hs own η s Q I r => ?_⟩
  refine h A σ H G hs own η s Q I (r.bind.mono fun d G1 hs1 s1 H1 S1 J1 h1 v hv => ?_)
  split at h1
  · exact h1 G1 hs1 H1 (Stp.refl _ _ _ _) J1 v (rep_han.mp hv)
  · exact h1.elim
theorem same_upd2 {G H : Hp} {a : Addr} {o : HO} (h : Same G H) (g : G a = none) : Same G (upd H a o) := fun b u e => by
  rw [upd_ne (ne_of_none e g)]
  exact h _ _ e
theorem RepAt.upd {K : PySem.W.Frag} {G H : Hp} {hs : List Addr} {a b : Addr} {d : D} {o : HO} (h : At K M G hs H b d) (n : b ≠ a) : At K M G hs (upd H a o) b d := h.mono (fun _ _ z => z) (Pre.refl _) (upd_ne n)
theorem at_nx {K : PySem.W.Frag} {M : Mp} {G H : Hp} {hs : List Addr} {a : Addr} : ∀ {d : D}, At K M G hs H a d → ∀ f, H a ≠ some (HO.ext f)
  | .lst ds, ⟨vs, h1, h2⟩, f => by rw [h1]; exact fun z => by cases z
  | .dic kvs, .inl ⟨vs, h1, h2⟩, f => by rw [h1]; exact fun z => by cases z
  | .dic kvs, .inr ⟨vs, h1, h2⟩, f => by rw [h1]; exact fun z => by cases z
  | .obj c ds, ⟨dx, fs, h1, h2, h3⟩, f => by rw [h1]; exact fun z => by cases z
theorem tabs_upd {M : Mp} {H : Hp} {a : Addr} {o : HO} (h : LamX.Tabs M.tabs H) (n : ¬ inTab M a) (x : ∀ f, H a ≠ some (HO.ext f)) : LamX.Tabs M.tabs (upd H a o) := fun p hp => by
  obtain ⟨ps, q1, q2, q3⟩ := h p hp
  refine ⟨ps, by rw [upd_ne (fun z => n ⟨p, hp, z⟩)]; exact q1, q2, fun pos cv hc => ?_⟩
  obtain ⟨c, r1, r2⟩ := q3 pos cv hc
  refine ⟨c, r1, ?_⟩
  rw [upd_ne (fun z => x _ (by rw [← z]; exact r2))]
  exact r2
theorem at_tbl {K : PySem.W.Frag} {M : Mp} {G H : Hp} {hs : List Addr} {a : Addr} {d : D} {o : HO} (h : At K M G hs (upd H a o) a d) : ∀ ps, o ≠ .tbl ps := by
  obtain ⟨u, e, n⟩ := At.some h
  rw [upd_same] at e
  cases e
  exact n
/-- an object of one's own is written -/
theorem Sm.wr {K : PySem.W.Frag} {A : Anc} {σ : L2.St} {H G : Hp} {hs : List Addr} {own : Nat → Addr} {η : Env} {s : DS} {i : Nat} {d d' : D} {o : HO} (I : Sm K M A σ H G hs own η s) (e : η[i]? = some (.o d)) (h : At K M G hs (upd H (own i) o) (own i) d') :
    Sm K M A σ (upd H (own i) o) G hs own (η.set i (.o d')) s := by
  obtain ⟨h1, h2, h3, h4, h5, h6⟩ := I.ow i d e
  refine ⟨⟨same_upd2 I.sim.sub h3, I.sim.len, I.sim.nd, I.sim.hG, fun k a d2 e1 e2 => ?_, tabs_upd I.sim.tab h5 (at_nx h2), I.sim.tG⟩, ⟨I.stp.gg, I.stp.fr, I.stp.hp, I.stp.hf, fun a u q n t => ?_, fun a q => ?_⟩, fun j d2 ej => ?_, fun j d2 ej => ?_, fun j k d1 d2 e1 e2 => ?_, by rw [List.length_set]; exact I.el, fun x d2 ex e2 => ?_⟩
  · exact RepAt.upd (I.sim.han k a d2 e1 e2) fun z => h4 (by rw [← z]; exact List.mem_of_getElem? e1)
  · rw [upd_ne (fun z => h6.no (by rw [← z]; exact q) t)]
    exact I.stp.kp a u q n t
  · by_cases z : a = own i
    · rw [z]; exact h6
    · exact I.stp.dm a fun u e => q u (by rw [upd_ne z]; exact e)
  · rcases set_get ej with ⟨rfl, q⟩ | ⟨hji, q⟩
    · cases q
    · exact I.pl j d2 q
  · rcases set_get ej with ⟨rfl, q⟩ | ⟨hji, q⟩
    · cases q
      exact ⟨h1, h, h3, h4, h5, h6⟩
    · obtain ⟨k1, k2, k3, k4, k5, k6⟩ := I.ow j d2 q
      exact ⟨k1, RepAt.upd k2 (fun z => hji (I.inj j i d2 d q e z)), k3, k4, k5, k6⟩
  · rcases set_get e1 with ⟨r1, q⟩ | ⟨r1, q⟩
    · rcases set_get e2 with ⟨r2, q2⟩ | ⟨r2, q2⟩
      · rw [r1, r2]; exact fun _ => rfl
      · rw [r1]; exact I.inj i k d d2 e q2
    · rcases set_get e2 with ⟨r2, q2⟩ | ⟨r2, q2⟩
      · rw [r2]; exact I.inj j i d1 d q e
      · exact I.inj j k d1 d2 q q2
  · rcases set_get e2 with ⟨r2, q2⟩ | ⟨r2, q2⟩
    · rw [← r2] at e; exact I.sf x d ex e
    · exact I.sf x d2 ex q2
/-- a handle's object is written -/
theorem Sim.wr {K : PySem.W.Frag} {H G : Hp} {hs : List Addr} {s : DS} {k : Nat} {a : Addr} {d d' : D} {o : HO} (J : Sim K M G hs s H) (ha : hs[k]? = some a) (e : s[k]? = some d) (h : At K M G hs (upd H a o) a d') :
    Stp M G hs H G hs (upd H a o) ∧ Sim K M G hs (s.set k d') (upd H a o) := by
  have hm : a ∈ hs := List.mem_of_getElem? ha
  have hH : ∃ u, H a = some u := by
    obtain ⟨u, q, _⟩ := J.hanS hm
    exact ⟨u, q⟩
  refine ⟨⟨fun _ _ z => z, fun _ _ z => .inl z, Pre.refl _, fun _ z => .inl z, fun b u q n t => ?_, fun b q => ?_⟩, ⟨same_upd2 J.sub (J.hG a hm), by rw [List.length_set]; exact J.len, J.nd, J.hG, fun j b d2 e1 e2 => ?_, tabs_upd J.tab (fun z => ?_) (at_nx (J.han k a d ha e)), J.tG⟩⟩
  · rw [upd_ne (fun z => n (by rw [z]; exact hm))]
    exact q
  · by_cases z : b = a
    · subst z
      exact (q.no upd_same (at_tbl h)).elim
    · exact fun u e => q u (by rw [upd_ne z]; exact e)
  · by_cases hj : j = k
    · subst hj
      rw [ha] at e1
      cases e1
      rw [List.getElem?_set_self (List.getElem?_eq_some_iff.mp e).1] at e2
      cases e2
      exact h
    · rw [List.getElem?_set_ne (Ne.symm hj)] at e2
      refine RepAt.upd (J.han j b d2 e1 e2) fun z => hj ?_
      subst z
      exact (List.getElem?_inj (List.getElem?_eq_some_iff.mp e1).1 J.nd).mp (e1.trans ha.symm)
  · obtain ⟨ps, q1⟩ := J.tabS z
    obtain ⟨u, q3, q4⟩ := J.hanS hm
    rw [q1] at q3
    exact q4 ps (Option.some.inj q3).symm
/-- a place is written -/
theorem wr_post {A : Anc} {σ : L2.St} {H G : Hp} {hs : List Addr} {own : Nat → Addr} {η : Env} {s : DS} {E : Ends} {pl : Plc} {v : V} {u : D → Option D} (I : Sm X.K M A σ H G hs own η s) (hv : PV own hs η pl v) (hp : FPost X.K M A W E (wrF pl u η s)) :
    ∃ a d d', v = .ref a ∧ At X.K M G hs H a d ∧ u d = some d' ∧ plcD pl η s = some d ∧ ∀ o, At X.K M G hs (upd H a o) a d' → E.nx σ (upd H a o) := by
  unfold wrF at hp
  split at hp
  · rename_i d ed
    split at hp
    · rename_i d' eu
      cases pl with
      | slot i =>
        obtain ⟨rfl, d0, e0⟩ := hv
        have ed2 : η[i]? = some (.o d) := by
          simp only [plcD, e0] at ed
          rw [e0, Option.some.inj ed]
        exact ⟨_, d, d', rfl, (I.ow i d ed2).2.1, eu, ed, fun o ho => hp σ _ G hs own (I.wr ed2 ho)⟩
      | han k =>
        obtain ⟨a, rfl, ha⟩ := hv
        have ed2 : s[k]? = some d := ed
        exact ⟨a, d, d', rfl, I.sim.han k a d ha ed2, eu, ed, fun o ho => by
          obtain ⟨S1, J1⟩ := I.sim.wr ha ed2 ho
          exact hp σ _ G hs own (I.step S1 J1)⟩
    · exact hp.elim
  · exact hp.elim

/-! ### methods that write -/
structure WrM (M : Mp) (X : Cx) (T id : String) (ty : D → Bool) (u : List D → D → Option D) : Prop where
  ex : ∃ r, MtR X id r ∧ (∀ (G H : Hp) (hs : List Addr) (a : Addr) (d : D), At X.K M G hs H a d → ty d = true → tyV X.K T (.ref a) H) ∧
    ∀ (G H : Hp) (hs : List Addr) (a : Addr) (d d' : D) (ds : List D) (vs : List V) (Q : VK), Same G H → At X.K M G hs H a d → RepL X.K M G hs ds vs → u ds d = some d' → (∀ o v, At X.K M G hs (upd H a o) a d' → Q v (upd H a o)) → r (.ref a) vs H Q
def appU : List D → D → Option D
  | [x], .lst ds => if ds.length < 16777216 then some (.lst (ds ++ [x])) else none
  | _, _ => none
def isLst : D → Bool
  | .lst _ => true
  | _ => false
theorem isLst_ty (G H : Hp) (hs : List Addr) (a : Addr) (d : D) (h : At X.K M G hs H a d) (e : isLst d = true) : tyV X.K "list" (.ref a) H := by
  unfold isLst at e
  split at e
  · obtain ⟨vs, h1, h2⟩ := h
    exact .inl ⟨rfl, vs, .inl (.inl h1)⟩
  · cases e
theorem wm_append : WrM M X "list" "list.append" isLst appU := by
  refine ⟨_, mt_append, isLst_ty, fun G H hs a d d' ds vs Q sm h hd e k => ?_⟩
  · unfold appU at e
    split at e
    · rename_i x ds0
      obtain ⟨ws, h1, h2⟩ := h
      split at e
      · rename_i hl
        cases e
        rw [repL_cons] at hd
        obtain ⟨y, yr, rfl, hy, hr⟩ := hd
        rw [repL_nil] at hr
        subst hr
        refine ⟨a, ws, y, rfl, rfl, h1, by rw [line_, ← h2.length]; exact hl, k _ _ ⟨_, upd_same, h2.append (repL_cons.mpr ⟨y, [], rfl, hy, repL_nil.mpr rfl⟩)⟩⟩
      · cases e
    · cases e
/-- o.m(e, ..) that writes o -/
def mtB (ty : D → Bool) (fp : Env → DS → R Plc) (fa : Env → DS → R (List D)) (u : List D → D → Option D) : Env → DS → F := fun η s => (fp η s).toF η fun pl s1 => match plcD pl η s1 with
  | some d0 => if ty d0 = true then (fa η s1).toF η fun ds s2 => wrF pl (u ds) η s2 else .bad
  | none => .bad
theorem ds_mt {o e : Expr} {es : List Expr} {name : Str} {T id : String} {fp : Env → DS → R Plc} {fa : Env → DS → R (List D)} {u : List D → D → Option D} {ty : D → Bool} {apos cpos pos : Pos} (pa : PlainAttrs T) (slot : Slot T name id) (hty : typeOf (.builtin id) = pure (.type "method_descriptor")) (hw : WrM M X T id ty u) (ho : DP M X W o fp) (ha : DA M X W (e :: es) fa)
    (hs : swapsWith (.Call (.Attribute o name apos) (e :: es) [] cpos) none pos.line X.env = pure false := by rfl)
    (hbase : attributeBase o name X.env (eval o X.env) = eval o X.env := by rfl)
    (hfew : ((backTo cpos (starEach (e :: es) X.env)).all (fun x => !x.1) && (backToKw cpos (keywordEach [] X.env)).all (fun x => x.1.isSome)
      && decide ((e :: es).length + ([] : List Keyword).length + (if ([] : List Keyword).isEmpty then 0 else 1) < 30)) = true := by rfl)
    (hline : (apos.endLine == cpos.line) = true := by rfl) (hse : starEach (e :: es) X.env = (false, eval e X.env) :: starEach es X.env := by rfl) (hplain : (backTo cpos (starEach es X.env)).any (·.1) = false := by rfl) :
    DSt M X W (.Expr (.Call (.Attribute o name apos) (e :: es) [] cpos) pos) (mtB ty fp fa u) := by
  obtain ⟨t, p, h⟩ := ho.ex
  obtain ⟨ta, pa2, k⟩ := ha.ex
  obtain ⟨r, hr, hT, kw⟩ := hw.ex
  refine ⟨_, ps_expr (pe_bm pa slot hty hr p pa2 hbase hfew hline hse hplain) hs, fun A σ H G hs own η s E I hp => ?_⟩
  refine h A σ H G hs own η s _ I ((hp.lift I).mono fun pl G1 hs1 s1 H1 S1 J1 h1 v hv => ?_)
  have I1 := I.step S1 J1
  split at h1
  · rename_i d0 ed0
    have hA : ∃ a, v = .ref a ∧ At X.K M G1 hs1 H1 a d0 := by
      cases pl with
      | slot i =>
        obtain ⟨rfl, d1, e1⟩ := hv
        simp only [plcD, e1] at ed0
        cases ed0
        exact ⟨_, rfl, (I1.ow i _ e1).2.1⟩
      | han k =>
        obtain ⟨a, rfl, ha⟩ := hv
        exact ⟨a, rfl, J1.han k a d0 ha ed0⟩
    obtain ⟨a, rfl, hA⟩ := hA
    split at h1
    case isFalse => exact h1.elim
    rename_i hty2
    refine ⟨hT _ _ _ _ _ hA hty2, k A σ H1 G1 hs1 own η s1 _ I1 ((h1.lift I1).mono fun ds G2 hs2 s2 H2 S2 J2 h2 vs hvs => ?_)⟩
    have I2 := I1.step S2 J2
    obtain ⟨a2, d, d', ea, hat, eu, _, kk⟩ := wr_post I2 (hv.step S2.hp) h2
    cases ea
    exact kw G2 H2 hs2 a d d' ds vs _ J2.sub hat hvs eu fun o v ho => kk o ho
  · exact h1.elim
end
end DL
set_option Elab.async false
set_option linter.all false
set_option maxRecDepth 100000
set_option maxHeartbeats 2000000
namespace DL
open PySem PySem.Spec PyProof.Rows L2

section
variable {M : Mp} {X : Cx} {W : WX}
/-! ### o[i] = e -/
structure StI (M : Mp) (X : Cx) (u : D → D → D → Option D) : Prop where
  ex : ∃ r, PSet X r ∧ ∀ (G H : Hp) (hs : List Addr) (a : Addr) (d d' i x : D) (vi vx : V) (Q : Hp → Prop), Same G H → At X.K M G hs H a d → Rep X.K M G hs i vi → Rep X.K M G hs x vx → u i x d = some d' →
    (∀ o, At X.K M G hs (upd H a o) a d' → Q (upd H a o)) → r (.ref a) vi vx H Q
structure GtI (M : Mp) (X : Cx) (g : D → D → Option D) : Prop where
  ex : ∃ r, PGet X r ∧ ∀ (G H : Hp) (hs : List Addr) (a : Addr) (d x i : D) (vi : V) (Q : VK), Same G H → At X.K M G hs H a d → Rep X.K M G hs i vi → g i d = some x →
    (∀ v, Rep X.K M G hs x v → Q v H) → r (.ref a) vi H Q
def setL : D → D → D → Option D
  | .int k, x, .lst ds => (ixN ds.length k).map fun j => .lst (ds.set j x)
  | _, _, _ => none
theorem si_list : StI M X setL := by
  refine ⟨_, set_list, fun G H hs a d d' i x vi vx Q sm h hi hx e k => ?_⟩
  unfold setL at e
  split at e
  · rename_i n ds
    obtain ⟨ws, h1, h2⟩ := h
    rw [Option.map_eq_some_iff] at e
    obtain ⟨j, ej, e2⟩ := e
    subst e2
    rw [rep_int] at hi
    exact ⟨a, ws, n, j, rfl, hi, h1, by rw [← h2.length]; exact ej, k _ ⟨_, upd_same, h2.set j hx⟩⟩
  · cases e
def getL : D → D → Option D
  | .int k, .lst ds => atI ds k
  | _, _ => none
def rGetL : V → V → Hp → VK → Prop := fun o i H Q => ∃ p xs k v, o = .ref p ∧ i = .int k ∧ H p = some (.lst xs) ∧ atI xs k = some v ∧ Q v H
theorem pget_list : PGet X rGetL := by
  intro pins s σ H o i ov iv Q I ro ri h
  obtain ⟨p, xs, k, z, rfl, rfl, hp, hz, q⟩ := h
  cases ro
  obtain ⟨t, rfl⟩ := ri
  obtain ⟨its, r, pl, hz2⟩ := I.list (SqL.of hp)
  obtain ⟨j, h1, h2, h3, h4, h5⟩ := atI_get hz
  obtain ⟨w, ew, rw'⟩ := r.get h2
  have hl := r.length
  have hn := line63
  have fin : EP X pins σ Q w s := ⟨z, H, I, rw', q⟩
  by_cases h0 : 0 ≤ k
  · have hj : k.toNat = j := by
      rw [seqIndex_of h0 h5] at h1
      exact Option.some.inj h1
    exact getItem_listL pl.isList h0 (by omega) (by rw [hj]; exact ew) fin
  · have hj : (k + (its.toArray.size : Int)).toNat = j := by
      rw [seqIndex_neg (by omega) h4] at h1
      rw [List.size_toArray, ← hl]
      exact Option.some.inj h1
    exact wpAny_getItem_list_neg pl.isList (by omega) (by rw [List.size_toArray] <;> omega) (by omega) (by rw [hj]; simpa using ew) fin
theorem gi_list : GtI M X getL := by
  refine ⟨_, pget_list, fun G H hs a d x i vi Q sm h hi e k => ?_⟩
  unfold getL at e
  split at e
  · rename_i n ds
    obtain ⟨ws, h1, h2⟩ := h
    obtain ⟨w, h3, h4⟩ := h2.at e
    rw [rep_int] at hi
    exact ⟨a, ws, n, w, rfl, hi, h1, h3, k w h4⟩
  · cases e
def stB (fe : Env → DS → R D) (fp : Env → DS → R Plc) (fi : Env → DS → R D) (u : D → D → D → Option D) : Env → DS → F := fun η s => (fe η s).toF η fun x s1 => (fp η s1).toF η fun pl s2 => (fi η s2).toF η fun i s3 => wrF pl (u i x) η s3
theorem ds_st {o i e : Expr} {fp : Env → DS → R Plc} {fi fe : Env → DS → R D} {u : D → D → D → Option D} {tpos pos : Pos} (he : DE M X W e fe) (ho : DP M X W o fp) (hi : DE M X W i fi) (hw : StI M X u)
    (ha : ∀ v, assign (.Subscript o i tpos) X.env v = (do
      let ov ← holding [v] (eval o X.env)
      let iv ← holding [v, ov] (eval i X.env)
      standAt tpos
      holding [v, ov, iv] (setItem ov iv v)
      release [v, ov, iv] []) := by intro _; rfl)
    (hs : swapsWithSole [.Subscript o i tpos] e pos.line X.env = pure false := by rfl) (hsw : swappedStores [.Subscript o i tpos] e X.env = pure none := by rfl)
    (h1 : (assignEach [.Subscript o i tpos] X.env).map (·.2) = [assign (.Subscript o i tpos) X.env] := by rfl) : DSt M X W (.Assign [.Subscript o i tpos] e pos) (stB fe fp fi u) := by
  obtain ⟨t, p, h⟩ := he.ex
  obtain ⟨t2, p2, k2⟩ := ho.ex
  obtain ⟨t3, p3, k3⟩ := hi.ex
  obtain ⟨r, hr, kw⟩ := hw.ex
  refine ⟨_, ps_asg p (pg_sub p2 p3 hr ha) hs hsw h1, fun A σ H G hs own η s E I hp => ?_⟩
  refine h A σ H G hs own η s _ I ((hp.lift I).mono fun x G1 hs1 s1 H1 S1 J1 q1 vx hvx => ?_)
  have I1 := I.step S1 J1
  refine k2 A σ H1 G1 hs1 own η s1 _ I1 ((q1.lift I1).mono fun pl G2 hs2 s2 H2 S2 J2 q2 v hv => ?_)
  have I2 := I1.step S2 J2
  refine k3 A σ H2 G2 hs2 own η s2 _ I2 ((q2.lift I2).mono fun d G3 hs3 s3 H3 S3 J3 q3 vi hvi => ?_)
  have I3 := I2.step S3 J3
  obtain ⟨a, d, d', rfl, hat, eu, _, kk⟩ := wr_post I3 (hv.step S3.hp) q3
  exact kw G3 H3 hs3 a d d' _ x vi vx _ J3.sub hat hvi (hvx.mono (S2.gg.trans S3.gg) (S2.hp.trans S3.hp)) eu kk
def stAugB (fp : Env → DS → R Plc) (fi : Env → DS → R D) (g : D → D → Option D) (o : D → D → Option D) (fe : Env → DS → R D) (u : D → D → D → Option D) : Env → DS → F := fun η s =>
  (fp η s).toF η fun pl s1 => (fi η s1).toF η fun i s2 => match (plcD pl η s2).bind (g i) with
    | some x => (fe η s2).toF η fun y s3 => match o (deref s3 x) (deref s3 y) with
      | some z => wrF pl (u i z) η s3
      | none => .bad
    | none => .bad
theorem PV.at_ {A : Anc} {σ : L2.St} {H G : Hp} {hs : List Addr} {own : Nat → Addr} {η : Env} {s : DS} {pl : Plc} {v : V} {d0 : D} (I : Sm X.K M A σ H G hs own η s) (hv : PV own hs η pl v) (ed0 : plcD pl η s = some d0) : ∃ a, v = .ref a ∧ At X.K M G hs H a d0 := by
  cases pl with
  | slot i =>
    obtain ⟨rfl, d1, e1⟩ := hv
    simp only [plcD, e1] at ed0
    cases ed0
    exact ⟨_, rfl, (I.ow i _ e1).2.1⟩
  | han k =>
    obtain ⟨a, rfl, ha⟩ := hv
    exact ⟨a, rfl, I.sim.han k a d0 ha ed0⟩
theorem ds_stAug {o i e : Expr} {op : Operator} {fp : Env → DS → R Plc} {fi fe : Env → DS → R D} {g : D → D → Option D} {oo : D → D → Option D} {u : D → D → D → Option D} {tpos pos : Pos} (ho : DP M X W o fp) (hi : DE M X W i fi) (hg : GtI M X g) (he : DB M X W e fe) (hop : IpD M X op oo) (hw : StI M X u)
    (ha : ∀ ov iv new, augStore i ov iv new = (do holding [new, ov, iv] (setItem ov iv new); release [new, ov, iv] []; pure .next) := by intros; rfl) : DSt M X W (.AugAssign (.Subscript o i tpos) op e pos) (stAugB fp fi g oo fe u) := by
  obtain ⟨t, p, h⟩ := he.ex
  obtain ⟨t2, p2, k2⟩ := ho.ex
  obtain ⟨t3, p3, k3⟩ := hi.ex
  obtain ⟨rg, hrg, kg⟩ := hg.ex
  obtain ⟨ro, hro, ko⟩ := hop.ex
  obtain ⟨r, hr, kw⟩ := hw.ex
  refine ⟨_, ps_augS p2 p3 hrg p hro hr ha, fun A σ H G hs own η s E I hp => ?_⟩
  refine k2 A σ H G hs own η s _ I ((hp.lift I).mono fun pl G1 hs1 s1 H1 S1 J1 q1 v hv => ?_)
  have I1 := I.step S1 J1
  refine k3 A σ H1 G1 hs1 own η s1 _ I1 ((q1.lift I1).mono fun i G2 hs2 s2 H2 S2 J2 q2 vi hvi => ?_)
  have I2 := I1.step S2 J2
  split at q2
  · rename_i x ex
    rw [Option.bind_eq_some_iff] at ex
    obtain ⟨d0, ed0, ex⟩ := ex
    obtain ⟨a, rfl, hat⟩ := PV.at_ I2 (hv.step S2.hp) ed0
    refine kg G2 H2 hs2 a d0 x i vi _ J2.sub hat hvi ex fun vx hvx => ?_
    refine h A σ H2 G2 hs2 own η s2 _ I2 ((q2.lift I2).mono fun y G3 hs3 s3 H3 S3 J3 q3 vy hvy => ?_)
    have I3 := I2.step S3 J3
    split at q3
    · rename_i z ez
      refine ko G3 hs3 s3 H3 _ _ z vx vy _ J3 ((BV.step S3 (.inl hvx)).read J3) (hvy.read J3) ez fun G4 H4 S4 J4 vz hvz => ?_
      have I4 := I3.step S4 J4
      obtain ⟨a2, d, d', ea, hat2, eu, _, kk⟩ := wr_post I4 (((hv.step S2.hp).step S3.hp).step S4.hp) q3
      cases ea
      exact kw G4 H4 hs3 a d d' _ z vi vz _ J4.sub hat2 (hvi.mono (S3.gg.trans S4.gg) (S3.hp.trans S4.hp)) hvz eu kk
    · exact q3.elim
  · exact q2.elim

/-! ### o.f = e -/
def fldU (c j : Nat) (x : D) : D → Option D
  | .obj c' ds => if c' = c ∧ j ≤ ds.length then some (.obj c (if j < ds.length then ds.set j x else ds ++ [x])) else none
  | _ => none
theorem putF_keys : ∀ {fs : List (Str × V)} {j : Nat} {f : Str} {v : V}, (fs.map (·.1)).Nodup → (fs.map (·.1))[j]? = some f → (putF f v fs).map (·.1) = fs.map (·.1) ∧ (putF f v fs).map (·.2) = (fs.map (·.2)).set j v
  | [], _, _, _, _, h => by simp at h
  | (g, w) :: fs, 0, f, v, _, h => by
    simp at h
    subst h
    simp [putF]
  | (g, w) :: fs, j + 1, f, v, nd, h => by
    rw [List.map_cons, List.nodup_cons] at nd
    have h3 : (fs.map (·.1))[j]? = some f := by simpa using h
    have hne : ¬ g = f := fun e => nd.1 (by rw [e]; exact List.mem_of_getElem? h3)
    obtain ⟨q1, q2⟩ := putF_keys (v := v) nd.2 h3
    refine ⟨?_, ?_⟩
    · rw [putF, if_neg hne, List.map_cons, q1, List.map_cons]
    · rw [putF, if_neg hne, List.map_cons, q2, List.map_cons, List.set_cons_succ]
theorem putF_new : ∀ {fs : List (Str × V)} {f : Str} {v : V}, f ∉ fs.map (·.1) → putF f v fs = fs ++ [(f, v)]
  | [], _, _, _ => rfl
  | (g, w) :: fs, f, v, h => by
    rw [List.map_cons, List.mem_cons, not_or] at h
    rw [putF, if_neg (fun e => h.1 e.symm), putF_new h.2]
    rfl
theorem at_fld {K : PySem.W.Frag} {G H : Hp} {hs : List Addr} {a : Addr} {c j : Nat} {f : Str} {d d' x : D} {vx : V} (C : ClsOk K M c) (hf : (M.flds c)[j]? = some f) (h : At K M G hs H a d) (hx : Rep K M G hs x vx) (e : fldU c j x d = some d') :
    ∃ dx fs, H a = some (.ins (M.cls c) dx fs) ∧ fs.length < 1000 ∧ At K M G hs (upd H a (.ins (M.cls c) dx (putF f vx fs))) a d' := by
  unfold fldU at e
  split at e
  · rename_i c' ds
    split at e
    · rename_i hc
      obtain ⟨rfl, hj⟩ := hc
      cases e
      obtain ⟨dx, fs, h1, h2, h3⟩ := h
      have hjl : j < (M.flds c').length := (List.getElem?_eq_some_iff.mp hf).1
      have hle : (fs.map (·.1)).length ≤ (M.flds c').length := by rw [h2, List.length_take]; omega
      have hfl : fs.length = ds.length := by rw [h3.length, List.length_map]
      refine ⟨dx, fs, h1, by rw [List.length_map] at hle; have := C.few; omega, dx, putF f vx fs, upd_same, ?_⟩
      split
      · rename_i hlt
        have hk : (fs.map (·.1))[j]? = some f := by rw [h2, List.getElem?_take_of_lt hlt]; exact hf
        obtain ⟨q1, q2⟩ := putF_keys (v := vx) (by rw [h2]; exact C.nd.sublist (List.take_sublist _ _)) hk
        rw [q1, q2, List.length_set]
        exact ⟨h2, h3.set j hx⟩
      · rename_i hlt
        have hje : j = ds.length := by omega
        have hn : f ∉ fs.map (·.1) := fun z => by
          rw [h2] at z
          obtain ⟨i, hi, ei⟩ := List.getElem_of_mem z
          rw [List.length_take] at hi
          rw [List.getElem_take] at ei
          have hij : i = j := (List.getElem?_inj (by omega) C.nd).mp (by rw [hf, List.getElem?_eq_getElem (by omega), ei])
          omega
        rw [putF_new hn, List.map_append, List.map_append, h2, List.length_append]
        refine ⟨?_, h3.append (repL_cons.mpr ⟨vx, [], rfl, hx, repL_nil.mpr rfl⟩)⟩
        have := List.take_succ (l := M.flds c') (i := j)
        rw [hf] at this
        rw [← hje]
        exact this.symm
    · cases e
  · cases e
def fldB (c j : Nat) (fe : Env → DS → R D) (fp : Env → DS → R Plc) : Env → DS → F := fun η s => (fe η s).toF η fun x s1 => (fp η s1).toF η fun pl s2 => wrF pl (fldU c j x) η s2
theorem ds_fld {o e : Expr} {c j : Nat} {f : Str} {fp : Env → DS → R Plc} {fe : Env → DS → R D} {pos' pos : Pos} (C : ClsOk X.K M c) (ho : DP M X W o fp) (he : DE M X W e fe) (hf : (M.flds c)[j]? = some f := by rfl) (hs : swapsWith e (some (.Attribute o f pos')) pos.line X.env = pure false := by rfl) :
    DSt M X W (.Assign [.Attribute o f pos'] e pos) (fldB c j fe fp) := by
  obtain ⟨t, p, h⟩ := he.ex
  obtain ⟨t2, p2, k2⟩ := ho.ex
  refine ⟨_, ps_fld p2 p hs, fun A σ H G hs own η s E I hp => ?_⟩
  refine h A σ H G hs own η s _ I ((hp.lift I).mono fun x G1 hs1 s1 H1 S1 J1 q1 vx hvx => ?_)
  have I1 := I.step S1 J1
  refine k2 A σ H1 G1 hs1 own η s1 _ I1 ((q1.lift I1).mono fun pl G2 hs2 s2 H2 S2 J2 q2 v hv => ?_)
  have I2 := I1.step S2 J2
  obtain ⟨a, d, d', rfl, hat, eu, _, kk⟩ := wr_post I2 hv q2
  obtain ⟨dx, fs, e1, e2, e3⟩ := at_fld C hf hat (hvx.mono S2.gg S2.hp) eu
  exact ⟨a, _, dx, fs, rfl, e1, C.cl, C.no f (List.mem_of_getElem? hf), e2, kk _ e3⟩
def fldAugB (c j : Nat) (fp : Env → DS → R Plc) (oo : D → D → Option D) (fe : Env → DS → R D) : Env → DS → F := fun η s =>
  (fp η s).toF η fun pl s1 => match (plcD pl η s1).bind (fldO c j) with
    | some x => (fe η s1).toF η fun y s2 => match oo (deref s2 x) (deref s2 y) with
      | some z => wrF pl (fldU c j z) η s2
      | none => .bad
    | none => .bad
theorem ds_fldAug {o e : Expr} {op : Operator} {c j : Nat} {f : Str} {fp : Env → DS → R Plc} {oo : D → D → Option D} {fe : Env → DS → R D} {pos' pos : Pos} (C : ClsOk X.K M c) (ho : DP M X W o fp) (hop : IpD M X op oo) (he : DB M X W e fe) (hf : (M.flds c)[j]? = some f := by rfl) :
    DSt M X W (.AugAssign (.Attribute o f pos') op e pos) (fldAugB c j fp oo fe) := by
  obtain ⟨t, p, h⟩ := he.ex
  obtain ⟨t2, p2, k2⟩ := ho.ex
  obtain ⟨ro, hro, ko⟩ := hop.ex
  refine ⟨_, ps_fldaug p2 p hro, fun A σ H G hs own η s E I hp => ?_⟩
  refine k2 A σ H G hs own η s _ I ((hp.lift I).mono fun pl G1 hs1 s1 H1 S1 J1 q1 v hv => ?_)
  have I1 := I.step S1 J1
  split at q1
  · rename_i x ex
    rw [Option.bind_eq_some_iff] at ex
    obtain ⟨d0, ed0, ex⟩ := ex
    obtain ⟨a, rfl, hat⟩ := PV.at_ I1 hv ed0
    obtain ⟨a', dx, fs, w, ea, e1, e2, hw⟩ := RV.fld C J1 hf (.inr ⟨a, rfl, hat⟩) ex
    cases ea
    refine ⟨a, _, dx, fs, w, rfl, e1, C.cl, C.no f (List.mem_of_getElem? hf), e2, ?_⟩
    refine h A σ H1 G1 hs1 own η s1 _ I1 ((q1.lift I1).mono fun y G2 hs2 s2 H2 S2 J2 q2 vy hvy => ?_)
    have I2 := I1.step S2 J2
    split at q2
    · rename_i z ez
      refine ko G2 hs2 s2 H2 _ _ z w vy _ J2 ((BV.step S2 (.inl hw)).read J2) (hvy.read J2) ez fun G3 H3 S3 J3 vz hvz => ?_
      have I3 := I2.step S3 J3
      obtain ⟨a2, d, d', ea, hat2, eu, _, kk⟩ := wr_post I3 ((hv.step S2.hp).step S3.hp) q2
      cases ea
      obtain ⟨dx', fs', r1, r2, r3⟩ := at_fld C hf hat2 hvz eu
      exact ⟨dx', fs', r1, r2, kk _ r3⟩
    · exact q2.elim
  · exact q1.elim

/-! ### a new handle -/
theorem Sim.newHan {K : PySem.W.Frag} {G H : Hp} {hs : List Addr} {s : DS} {d : D} {p : Addr} (J : Sim K M G hs s H) (h : Fr1 K M G hs H d p) : Sim K M G (hs ++ [p]) (s ++ [d]) H := by
  refine ⟨J.sub, by rw [List.length_append, List.length_append, J.len]; rfl, ?_, fun a ha => ?_, fun k a d2 e1 e2 => ?_, J.tab, J.tG⟩
  · exact List.nodup_append.mpr ⟨J.nd, List.nodup_cons.mpr ⟨List.not_mem_nil, List.nodup_nil⟩, fun a ha b hb e => by
      rw [List.mem_singleton] at hb
      exact h.h (by rw [← hb, ← e]; exact ha)⟩
  · rcases List.mem_append.mp ha with z | z
    · exact J.hG a z
    · rw [List.mem_singleton] at z
      rw [z]; exact h.g
  · by_cases hk : k < hs.length
    · rw [List.getElem?_append_left hk] at e1
      rw [List.getElem?_append_left (by rw [← J.len]; exact hk)] at e2
      exact (J.han k a d2 e1 e2).mono (fun _ _ z => z) (Pre.snoc _ _) rfl
    · rw [List.getElem?_append_right (by omega)] at e1
      rw [List.getElem?_append_right (by rw [← J.len]; omega)] at e2
      have hk2 : k - hs.length = 0 := by
        have := (List.getElem?_eq_some_iff.mp e1).1
        simp at this
        omega
      rw [hk2] at e1
      rw [← J.len, hk2] at e2
      simp at e1 e2
      subst e1 e2
      exact h.at_.mono (fun _ _ z => z) (Pre.snoc _ _) rfl
theorem Stp.newHan {G G' H H' : Hp} {hs hs' : List Addr} {p : Addr} (S : Stp M G hs H G' hs' H') (h : Nt H p) : Stp M G hs H G' (hs' ++ [p]) H' :=
  ⟨S.gg, S.fr, S.hp.trans (Pre.snoc _ _), fun a ha => by
    rcases List.mem_append.mp ha with z | z
    · exact S.hf a z
    · rw [List.mem_singleton] at z
      rw [z]; exact .inr h, S.kp, S.dm⟩
def hanD (f : Env → DS → R D) : Env → DS → R D := fun η s => (f η s).bind fun d s1 => .ok (.han s1.length) (s1 ++ [d])
theorem DF.han {e : Expr} {f : Env → DS → R D} (h : DF M X W e f) : DE M X W e (hanD f) := by
  obtain ⟨t, p, h⟩ := h.ex
  refine ⟨t, p, fun A σ H G hs own η s Q I hp => h A σ H G hs own η s Q I ?_⟩
  unfold hanD at hp
  cases q : f η s with
  | ok d s1 =>
    rw [q] at hp
    have hp2 : RPost X.K M σ W G hs H (R.ok (D.han s1.length) (s1 ++ [d])) (fun d G' hs' _ H' => ∀ v, Rep X.K M G' hs' d v → Q v H') := hp
    intro G1 hs1 H1 S1 J1 p hp0 fr
    exact hp2 G1 (hs1 ++ [p]) H1 (S1.newHan hp0) (J1.newHan fr) (.ref p) (rep_han.mpr ⟨p, rfl, by rw [← J1.len]; simp⟩)
  | ex c p s1 => rw [q] at hp; exact hp
  | bad => rw [q] at hp; exact hp
end
end DL
set_option Elab.async false
set_option linter.all false
set_option maxRecDepth 100000
set_option maxHeartbeats 2000000
namespace DL
open PySem PySem.Spec PyProof.Rows L2

section
variable {M : Mp} {X : Cx} {W : WX} {K : PySem.W.Frag}
/-! ### a new anchor -/
structure AncLe (K : PySem.W.Frag) (M : Mp) (A A' : Anc) : Prop where
  st : ∀ G hs H, Stp M A'.G A'.hs A'.H G hs H → Stp M A.G A.hs A.H G hs H
  no : ∀ a, Nt A'.H a → Nt A.H a
  sf : A'.slf = A.slf
theorem AncLe.sm {A A' : Anc} {σ : L2.St} {H G : Hp} {hs : List Addr} {own : Nat → Addr} {η : Env} {s : DS} (h : AncLe K M A A') (I : Sm K M A' σ H G hs own η s) : Sm K M A σ H G hs own η s :=
  ⟨I.sim, h.st _ _ _ I.stp, I.pl, fun i d e => by
    obtain ⟨h1, h2, h3, h4, h5, h6⟩ := I.ow i d e
    exact ⟨h1, h2, h3, h4, h5, h.no _ h6⟩, I.inj, I.el, fun x d e => I.sf x d (by rw [h.sf]; exact e)⟩
theorem AncLe.post {A A' : Anc} {E : Ends} {r : F} (h : AncLe K M A A') (p : FPost K M A W E r) : FPost K M A' W E r := by
  cases r with
  | nx η s => exact fun σ H G hs own I => p σ H G hs own (h.sm I)
  | rt d s => exact fun H G hs v S => p H G hs v (h.st _ _ _ S)
  | bk η s => exact fun σ H G hs own I => p σ H G hs own (h.sm I)
  | ct η s => exact fun σ H G hs own I => p σ H G hs own (h.sm I)
  | ex c q η s => exact fun σ H G hs own cls dx I => p σ H G hs own cls dx (h.sm I)
  | bad => exact p
open Classical in
theorem Sm.anew {A : Anc} {σ : L2.St} {H G : Hp} {hs : List Addr} {own : Nat → Addr} {η : Env} {s : DS} (I : Sm K M A σ H G hs own η s) : ∃ A' : Anc, A'.G = G ∧ A'.hs = hs ∧ AncLe K M A A' ∧ Sm K M A' σ H G hs own η s := by
  let P : Addr → Prop := fun a => ∃ i d, η[i]? = some (.o d) ∧ own i = a
  have hP : ∀ a, P a → Nt A.H a := fun a ⟨i, d, e, z⟩ => by
    obtain ⟨_, _, _, _, _, h6⟩ := I.ow i d e
    rw [← z]; exact h6
  have dm : ∀ a, Nt (fun a => if P a then none else H a) a → Nt A.H a := fun a e => by
    by_cases p : P a
    · exact hP a p
    · exact I.stp.dm a fun o q => e o (by dsimp only; rw [if_neg p]; exact q)
  refine ⟨⟨G, hs, fun a => if P a then none else H a, A.slf⟩, rfl, rfl, ⟨fun G2 hs2 H2 S => ⟨I.stp.gg.trans S.gg, fun a o e => ?_, I.stp.hp.trans S.hp, fun a ha => ?_, fun a o e n t => ?_, fun a e => dm a (S.dm a e)⟩, dm, rfl⟩, I.sim, ⟨fun _ _ h => h, fun _ _ h => .inl h, Pre.refl _, fun _ h => .inl h, fun a o e _ _ => ?_, fun a e => ?_⟩, I.pl, fun i d e => ?_, I.inj, I.el, I.sf⟩
  · rcases S.fr a o e with z | z
    · exact I.stp.fr a o z
    · exact .inr (dm a z)
  · rcases S.hf a ha with z | z
    · exact I.stp.hf a z
    · exact .inr (dm a z)
  · have n2 : a ∉ hs := fun z => by
      rcases I.stp.hf a z with q | q
      · exact n q
      · exact q.no e t
    refine S.kp a o ?_ n2 t
    dsimp only
    rw [if_neg (fun p => (hP a p).no e t)]
    exact I.stp.kp a o e n t
  · dsimp only at e
    split at e
    · cases e
    · exact e
  · intro o q
    dsimp only at q
    split at q
    · cases q
    · exact e o q
  · obtain ⟨h1, h2, h3, h4, h5, h6⟩ := I.ow i d e
    refine ⟨h1, h2, h3, h4, h5, nt_none ?_⟩
    dsimp only
    rw [if_pos ⟨i, d, e, rfl⟩]

/-! ### what is gone through -/
/-- J yields ds, whatever is done meanwhile to what may be written -/
def ItC (K : PySem.W.Frag) (M : Mp) (G : Hp) (hs : List Addr) (J : It) (ds : List D) : Prop := ∀ (G2 : Hp) (hs2 : List Addr) (s2 : DS) (H2 : Hp), Same G G2 → Pre hs hs2 → Sim K M G2 hs2 s2 H2 → ∀ i : Nat,
  (ds[i]? = none → J.stop i H2) ∧ ∀ d, ds[i]? = some d → J.go i H2 ∧ ∀ x H', J.yld i H2 x H' → ∃ G', Stp M G2 hs2 H2 G' hs2 H' ∧ Sim K M G' hs2 s2 H' ∧ Rep K M G' hs2 d x
/-- .. if nothing is written -/
def ItS (K : PySem.W.Frag) (M : Mp) (G : Hp) (hs : List Addr) (H : Hp) (J : It) (ds : List D) : Prop := ∀ (G2 : Hp) (hs2 : List Addr) (s2 : DS) (H2 : Hp), Stp M G hs H G2 hs2 H2 → Sim K M G2 hs2 s2 H2 → ∀ i : Nat,
  (ds[i]? = none → J.stop i H2) ∧ ∀ d, ds[i]? = some d → J.go i H2 ∧ ∀ x H', J.yld i H2 x H' → ∃ G', Stp M G2 hs2 H2 G' hs2 H' ∧ Sim K M G' hs2 s2 H' ∧ Rep K M G' hs2 d x
theorem ItC.s {G H : Hp} {hs : List Addr} {J : It} {ds : List D} (h : ItC K M G hs J ds) : ItS K M G hs H J ds := fun G2 hs2 s2 H2 S => h G2 hs2 s2 H2 S.gg S.hp
structure DI (M : Mp) (X : Cx) (W : WX) (tg e : Expr) (f : Env → DS → R (List D)) : Prop where
  ex : ∃ wi, PI X tg e wi ∧ ∀ (A : Anc) (σ : L2.St) (H G : Hp) (hs : List Addr) (own : Nat → Addr) (η : Env) (s : DS) (Q : It → Hp → Prop), Sm X.K M A σ H G hs own η s →
    RPost X.K M σ W G hs H (f η s) (fun ds G' hs' _ H' => ∀ J, ItC X.K M G' hs' J ds → Q J H') → wi σ H Q
structure DIS (M : Mp) (X : Cx) (W : WX) (tg e : Expr) (f : Env → DS → R (List D)) : Prop where
  ex : ∃ wi, PI X tg e wi ∧ ∀ (A : Anc) (σ : L2.St) (H G : Hp) (hs : List Addr) (own : Nat → Addr) (η : Env) (s : DS) (Q : It → Hp → Prop), Sm X.K M A σ H G hs own η s →
    RPost X.K M σ W G hs H (f η s) (fun ds G' hs' _ H' => ∀ J, ItS X.K M G' hs' H' J ds → Q J H') → wi σ H Q
theorem DI.s {tg e : Expr} {f : Env → DS → R (List D)} (h : DI M X W tg e f) : DIS M X W tg e f := by
  obtain ⟨wi, p, k⟩ := h.ex
  exact ⟨wi, p, fun A σ H G hs own η s Q I r => k A σ H G hs own η s Q I (r.mono fun ds G1 hs1 s1 H1 _ _ q J j => q J j.s)⟩
def lstO : D → Option (List D)
  | .lst l => some l
  | _ => none
def scrO : D → Option (List D)
  | .scr l => some (l.map D.int)
  | .lst l => some l
  | _ => none
def tupO : D → Option (List D)
  | .tup l => some l
  | _ => none
theorem itl_c {G : Hp} {hs : List Addr} {a : Addr} {vs : List V} {ds : List D} (h : ∀ G2 H2, Same G G2 → Same G2 H2 → SqL K H2 a vs) (hr : RepL K M G hs ds vs) : ItC K M G hs (Itl K a) ds := by
  intro G2 hs2 s2 H2 gg pp J2 i
  have hq := h G2 H2 gg J2.sub
  refine ⟨fun e => ⟨vs, hq, ?_⟩, fun d e => ?_⟩
  · rw [← hr.length]; exact List.getElem?_eq_none_iff.mp e
  · obtain ⟨v, e1, e2⟩ := hr.get e
    refine ⟨⟨vs, v, hq, e1⟩, fun x H' y => ?_⟩
    obtain ⟨rfl, y⟩ := y
    have z := y vs hq
    rw [e1] at z
    cases z
    exact ⟨G2, Stp.refl _ _ _ _, J2, e2.mono gg pp⟩
theorem itt_c {G : Hp} {hs : List Addr} {a : Addr} {vs : List V} {ds : List D} (h : SqT K G a vs) (hr : RepL K M G hs ds vs) : ItC K M G hs (Itt K a) ds := by
  intro G2 hs2 s2 H2 gg pp J2 i
  have hq := same_seqT J2.sub (same_seqT gg h)
  refine ⟨fun e => ⟨vs, hq, ?_⟩, fun d e => ?_⟩
  · rw [← hr.length]; exact List.getElem?_eq_none_iff.mp e
  · obtain ⟨v, e1, e2⟩ := hr.get e
    refine ⟨⟨vs, v, hq, e1⟩, fun x H' y => ?_⟩
    obtain ⟨rfl, y⟩ := y
    have z := y vs hq
    rw [e1] at z
    cases z
    exact ⟨G2, Stp.refl _ _ _ _, J2, e2.mono gg pp⟩
def iterD (o : D → Option (List D)) (f : Env → DS → R D) : Env → DS → R (List D) := fun η s => (f η s).bind fun d s1 => R.ofO (o d) s1
variable {tg e : Expr} {f : Env → DS → R D}
theorem di_list (h : DE M X W e f) : DI M X W tg e (iterD scrO f) := by
  obtain ⟨t, p, k⟩ := h.ex
  refine ⟨_, pi_list p, fun A σ H G hs own η s Q I r => ?_⟩
  refine k A σ H G hs own η s _ I (r.bind.mono fun d G1 hs1 s1 H1 S1 J1 q v hv => ?_)
  obtain ⟨ds, eo, q⟩ := q.ofO
  unfold scrO at eo
  split at eo
  · cases eo
    obtain ⟨a, rfl, hq⟩ := rep_scr.mp hv
    exact ⟨a, rfl, ⟨_, J1.sub.seq hq⟩, q G1 hs1 H1 (Stp.refl _ _ _ _) J1 _ (itl_c (fun G2 H2 gg sm => sm.seq (gg.seq hq)) (RepL.ints.mpr rfl))⟩
  · cases eo
    obtain ⟨a, vs, rfl, h1, h2⟩ := rep_lst.mp hv
    exact ⟨a, rfl, ⟨vs, SqL.of (J1.sub _ _ h1)⟩, q G1 hs1 H1 (Stp.refl _ _ _ _) J1 _ (itl_c (fun G2 H2 gg sm => SqL.of (sm _ _ (gg _ _ h1))) h2)⟩
  · cases eo
theorem di_tup (h : DE M X W e f) : DI M X W tg e (iterD tupO f) := by
  obtain ⟨t, p, k⟩ := h.ex
  refine ⟨_, pi_tup p, fun A σ H G hs own η s Q I r => ?_⟩
  refine k A σ H G hs own η s _ I (r.bind.mono fun d G1 hs1 s1 H1 S1 J1 q v hv => ?_)
  obtain ⟨ds, eo, q⟩ := q.ofO
  unfold tupO at eo
  split at eo
  · cases eo
    obtain ⟨a, vs, rfl, h1, h2⟩ := rep_tup.mp hv
    exact ⟨a, rfl, ⟨vs, same_seqT J1.sub h1⟩, q G1 hs1 H1 (Stp.refl _ _ _ _) J1 _ (itt_c h1 h2)⟩
  · cases eo
/-- a list of one's own, or of an object that may be written: gone through where nothing is written -/
theorem dis_list (h : DB M X W e f) : DIS M X W tg e (iterD lstO f) := by
  obtain ⟨t, p, k⟩ := h.ex
  refine ⟨_, pi_list p, fun A σ H G hs own η s Q I r => ?_⟩
  refine k A σ H G hs own η s _ I (r.bind.mono fun d G1 hs1 s1 H1 S1 J1 q v hv => ?_)
  obtain ⟨ds, eo, q⟩ := q.ofO
  unfold lstO at eo
  split at eo
  · cases eo
    rcases hv with hv | ⟨a, rfl, ⟨vs, h1, h2⟩, h3, h4, h5⟩
    · obtain ⟨a, vs, rfl, h1, h2⟩ := rep_lst.mp hv
      exact ⟨a, rfl, ⟨vs, SqL.of (J1.sub _ _ h1)⟩, q G1 hs1 H1 (Stp.refl _ _ _ _) J1 _ (itl_c (fun G2 H2 gg sm => SqL.of (sm _ _ (gg _ _ h1))) h2).s⟩
    · refine ⟨a, rfl, ⟨vs, SqL.of h1⟩, q G1 hs1 H1 (Stp.refl _ _ _ _) J1 _ fun G2 hs2 s2 H2 S2 J2 i => ?_⟩
      have hq : SqL X.K H2 a vs := SqL.of (S2.kp a _ h1 h3 fun ps z => by cases z)
      refine ⟨fun e => ⟨vs, hq, ?_⟩, fun d e => ?_⟩
      · rw [← h2.length]; exact List.getElem?_eq_none_iff.mp e
      · obtain ⟨v, e1, e2⟩ := h2.get e
        refine ⟨⟨vs, v, hq, e1⟩, fun x H' y => ?_⟩
        obtain ⟨rfl, y⟩ := y
        have z := y vs hq
        rw [e1] at z
        cases z
        exact ⟨G2, Stp.refl _ _ _ _, J2, e2.mono S2.gg S2.hp⟩
  · cases eo
/-- lo, lo + 1, .. -/
def rngL (lo : Int) : Nat → List D
  | 0 => []
  | n + 1 => .int lo :: rngL (lo + 1) n
theorem rngL_get : ∀ (n : Nat) (lo : Int) (i : Nat), (rngL lo n)[i]? = if i < n then some (.int (lo + i)) else none
  | 0, lo, i => by simp [rngL]
  | n + 1, lo, 0 => by simp [rngL]
  | n + 1, lo, i + 1 => by
    rw [rngL, List.getElem?_cons_succ, rngL_get n (lo + 1) i]
    have e : lo + 1 + (i : Int) = lo + ((i + 1 : Nat) : Int) := by omega
    rw [e]
    simp only [Nat.add_lt_add_iff_right]
theorem itr_c {G : Hp} {hs : List Addr} {lo : Int} {n : Nat} : ItC K M G hs (Itr lo n) (rngL lo n) := by
  intro G2 hs2 s2 H2 gg pp J2 i
  rw [rngL_get]
  refine ⟨fun e => ?_, fun d e => ?_⟩
  · split at e
    · cases e
    · show n ≤ i; omega
  · split at e
    · cases e
      rename_i hi
      refine ⟨hi, fun x H' y => ?_⟩
      obtain ⟨rfl, rfl⟩ := y
      exact ⟨G2, Stp.refl _ _ _ _, J2, rep_int.mpr rfl⟩
    · cases e
noncomputable def small62 (i : Int) : Bool := cl (-4611686018427387904 ≤ i) && cl (i < 4611686018427387904)
theorem small62_of {i : Int} (h : small62 i = true) : -(2 ^ 62) ≤ i ∧ i < 2 ^ 62 := by
  unfold small62 at h
  rw [Bool.and_eq_true, cl_iff, cl_iff] at h
  have p : (2 : Int) ^ 62 = 4611686018427387904 := by decide
  rw [p]
  exact h
noncomputable def rng1 : List D → Option (List D)
  | [.int j] => if small62 j = true then some (rngL 0 j.toNat) else none
  | _ => none
noncomputable def rng2 : List D → Option (List D)
  | [.int i, .int j] => if (small62 i && small62 j) = true then some (rngL i (j - i).toNat) else none
  | _ => none
def rngD (o : List D → Option (List D)) (g : Env → DS → R (List D)) : Env → DS → R (List D) := fun η s => (g η s).bind fun ds s1 => R.ofO (o ds) s1
theorem di_range1 {a : Expr} {g : Env → DS → R (List D)} {p pos : Pos} (hm : X.mg "range" = none) (ha : DA M X W [a] g) (hg : Gl X "range" := by rfl) (hs : starEach [a] X.env = [(false, eval a X.env)] := by rfl) : DI M X W tg (.Call (.Name "range" p) [a] [] pos) (rngD rng1 g) := by
  obtain ⟨t, pa, k⟩ := ha.ex
  refine ⟨_, pi_range1 hg hm pa hs, fun A σ H G hs own η s Q I r => ?_⟩
  refine k A σ H G hs own η s _ I (r.bind.mono fun ds G1 hs1 s1 H1 S1 J1 q vs hv => ?_)
  obtain ⟨xs, eo, q2⟩ := q.ofO
  clear q
  unfold rng1 at eo
  split at eo
  · split at eo
    · cases eo
      rename_i j hj
      rw [repL_cons] at hv
      obtain ⟨v, vr, rfl, h1, h2⟩ := hv
      rw [repL_nil] at h2
      rw [rep_int] at h1
      subst h1 h2
      exact ⟨j, rfl, (small62_of hj).1, (small62_of hj).2, q2 G1 hs1 H1 (Stp.refl _ _ _ _) J1 _ itr_c⟩
    · cases eo
  · cases eo
theorem di_range2 {a b : Expr} {g : Env → DS → R (List D)} {p pos : Pos} (hm : X.mg "range" = none) (ha : DA M X W [a, b] g) (hg : Gl X "range" := by rfl) (hs : starEach [a, b] X.env = [(false, eval a X.env), (false, eval b X.env)] := by rfl) (hs2 : starEach [b] X.env = [(false, eval b X.env)] := by rfl) : DI M X W tg (.Call (.Name "range" p) [a, b] [] pos) (rngD rng2 g) := by
  obtain ⟨t, pa, k⟩ := ha.ex
  refine ⟨_, pi_range2 hg hm pa hs hs2, fun A σ H G hs own η s Q I r => ?_⟩
  refine k A σ H G hs own η s _ I (r.bind.mono fun ds G1 hs1 s1 H1 S1 J1 q vs hv => ?_)
  obtain ⟨xs, eo, q2⟩ := q.ofO
  clear q
  unfold rng2 at eo
  split at eo
  · split at eo
    · cases eo
      rename_i i j hij
      rw [Bool.and_eq_true] at hij
      rw [repL_cons] at hv
      obtain ⟨v, vr, rfl, h1, hv⟩ := hv
      rw [repL_cons] at hv
      obtain ⟨v, vr, rfl, h2, h3⟩ := hv
      rw [repL_nil] at h3
      rw [rep_int] at h1 h2
      subst h1 h2 h3
      exact ⟨i, j, rfl, ⟨(small62_of hij.1).1, (small62_of hij.1).2, (small62_of hij.2).1, (small62_of hij.2).2⟩, q2 G1 hs1 H1 (Stp.refl _ _ _ _) J1 _ itr_c⟩
    · cases eo
  · cases eo

/-! ### for -/
def forF (put : D → Env → Option Env) (body : Env → DS → F) : List D → Env → DS → F
  | [], η, s => .nx η s
  | d :: ds, η, s => match put d η with
    | none => .bad
    | some η1 => match body η1 s with
      | .nx η2 s2 => forF put body ds η2 s2
      | .ct η2 s2 => forF put body ds η2 s2
      | .bk η2 s2 => .nx η2 s2
      | r => r
def forB (fi : Env → DS → R (List D)) (put : D → Env → Option Env) (body : Env → DS → F) : Env → DS → F := fun η s => (fi η s).toF η fun ds s1 => forF put body ds η s1
theorem ds_for {body : List Stmt} {fi : Env → DS → R (List D)} {put : D → Env → Option Env} {g : Env → DS → F} {is : List Nat} {pos : Pos} (hp : PassesOwn (model X.prog X.w) X.A X.env X.xe) (hc : X.calm = true) (hi : DI M X W tg e fi) (hg : DG M X tg put is) (hb : DSs M X W body g)
    (hs : ∀ x, foldedSetIterable e X.env x = pure x := by intro _; rfl) : DSt M X W (.For tg e body [] pos) (forB fi put g) := by
  obtain ⟨wi, pi, ki⟩ := hi.ex
  obtain ⟨tgt, pg, kg⟩ := hg.ex
  obtain ⟨tb, pb, kb⟩ := hb.ex
  refine ⟨_, ps_for hp hc pi pg pb hs, fun A σ H G hs own η s E I hp => ?_⟩
  refine ki A σ H G hs own η s _ I ((hp.lift I).mono fun ds G1 hs1 s1 H1 S1 J1 h1 J hJ => ?_)
  obtain ⟨A', rfl, rfl, le, I1⟩ := (I.step S1 J1).anew
  refine ⟨fun i m σ H => ∃ G hs own η s, Sm X.K M A' σ H G hs own η s ∧ m = ds.length - i ∧ i ≤ ds.length ∧ FPost X.K M A' W E (forF put g (ds.drop i) η s), ⟨ds.length, _, _, own, η, s1, I1, rfl, Nat.zero_le _, le.post h1⟩, ?_⟩
  rintro i m σ2 H2 ⟨G2, hs2, own2, η2, s2, I2, rfl, hil, h2⟩
  obtain ⟨stop, go⟩ := hJ G2 hs2 s2 H2 I2.stp.gg I2.stp.hp I2.sim i
  cases q : ds[i]? with
  | none =>
    have hn : ds.drop i = [] := List.drop_eq_nil_of_le (List.getElem?_eq_none_iff.mp q)
    rw [hn] at h2
    exact .inl ⟨stop q, h2 σ2 H2 G2 hs2 own2 I2⟩
  | some d =>
    have hlt : i < ds.length := (List.getElem?_eq_some_iff.mp q).1
    obtain ⟨go1, go2⟩ := go d q
    have hd : ds.drop i = d :: ds.drop (i + 1) := by
      rw [List.drop_eq_getElem_cons hlt]
      congr 1
      rw [List.getElem?_eq_getElem hlt] at q
      exact Option.some.inj q
    rw [hd, forF] at h2
    refine .inr ⟨go1, fun σ' H' => ∃ G hs own η s, Sm X.K M A' σ' H' G hs own η s ∧ FPost X.K M A' W E (forF put g (ds.drop (i + 1)) η s), fun σ' H' ⟨G, hs, own, η, s, a, b⟩ => ⟨ds.length - (i + 1), by omega, G, hs, own, η, s, a, rfl, hlt, b⟩, fun x H' y => ?_⟩
    obtain ⟨G3, S3, J3, hx⟩ := go2 x H' y
    have I3 := I2.step S3 J3
    split at h2
    · exact h2.elim
    · rename_i η3 e3
      refine kg A' σ2 H' G3 hs2 own2 η2 η3 s2 d x _ I3 hx e3 fun σ4 I4 _ => ?_
      refine kb A' σ4 H' G3 hs2 own2 η3 s2 _ I4 ?_
      cases r : g η3 s2 with
      | nx η5 s5 => rw [r] at h2; exact fun σ H G hs own I => ⟨G, hs, own, η5, s5, I, h2⟩
      | ct η5 s5 => rw [r] at h2; exact fun σ H G hs own I => ⟨G, hs, own, η5, s5, I, h2⟩
      | bk η5 s5 => rw [r] at h2; exact h2
      | rt d s5 => rw [r] at h2; exact h2
      | ex c p η5 s5 => rw [r] at h2; exact h2
      | bad => rw [r] at h2; exact h2

/-! ### while -/
def whF (c : Env → DS → R Bool) (body : Env → DS → F) : Nat → Env → DS → F
  | 0, _, _ => .bad
  | n + 1, η, s => (c η s).toF η fun b s1 => if b = true then (match body η s1 with
      | .nx η2 s2 => whF c body n η2 s2
      | .ct η2 s2 => whF c body n η2 s2
      | .bk η2 s2 => .nx η2 s2
      | r => r) else .nx η s1
/-- n: how often at most, for the proof alone -/
def whB (n : Env → DS → Nat) (c : Env → DS → R Bool) (body : Env → DS → F) : Env → DS → F := fun η s => whF c body (n η s) η s
theorem ds_while {c : Expr} {body : List Stmt} {fc : Env → DS → R Bool} {g : Env → DS → F} {pos : Pos} (n : Env → DS → Nat) (hp : PassesOwn (model X.prog X.w) X.A X.env X.xe) (hc : DT M X W c fc) (hb : DSs M X W body g) : DSt M X W (.While c body [] pos) (whB n fc g) := by
  obtain ⟨tc, pc, kc⟩ := hc.ex
  obtain ⟨tb, pb, kb⟩ := hb.ex
  refine ⟨_, ps_while hp pc pb, fun A σ H G hs own η s E I hp => ?_⟩
  refine ⟨fun m σ H => ∃ G hs own η s, Sm X.K M A σ H G hs own η s ∧ FPost X.K M A W E (whF fc g m η s), ⟨n η s, G, hs, own, η, s, I, hp⟩, ?_⟩
  rintro m σ2 H2 ⟨G2, hs2, own2, η2, s2, I2, h2⟩
  cases m with
  | zero => exact h2.elim
  | succ m =>
    rw [whF] at h2
    refine kc A σ2 H2 G2 hs2 own2 η2 s2 _ I2 ((FPost.lift I2 h2).mono fun b G3 hs3 s3 H3 S3 J3 h3 => ?_)
    have I3 := I2.step S3 J3
    cases b with
    | false =>
      rw [if_neg Bool.false_ne_true] at h3 ⊢
      exact h3 σ2 H3 G3 hs3 own2 I3
    | true =>
      rw [if_pos rfl] at h3 ⊢
      refine ⟨fun σ' H' => ∃ G hs own η s, Sm X.K M A σ' H' G hs own η s ∧ FPost X.K M A W E (whF fc g m η s), fun σ' H' q => ⟨m, Nat.lt_succ_self m, q⟩, ?_⟩
      refine kb A σ2 H3 G3 hs3 own2 η2 s3 _ I3 ?_
      cases r : g η2 s3 with
      | nx η5 s5 => rw [r] at h3; exact fun σ H G hs own I => ⟨G, hs, own, η5, s5, I, h3⟩
      | ct η5 s5 => rw [r] at h3; exact fun σ H G hs own I => ⟨G, hs, own, η5, s5, I, h3⟩
      | bk η5 s5 => rw [r] at h3; exact h3
      | rt d s5 => rw [r] at h3; exact h3
      | ex c p η5 s5 => rw [r] at h3; exact h3
      | bad => rw [r] at h3; exact h3
end
end DL
set_option Elab.async false
set_option linter.all false
set_option maxRecDepth 100000
set_option maxHeartbeats 2000000
namespace DL
open PySem PySem.Spec PyProof.Rows L2

def wipeE (η : Env) : List Nat → Env
  | [] => η
  | v :: vs => (wipeE η vs).set v .no
theorem wipeE_len (η : Env) : ∀ vs, (wipeE η vs).length = η.length
  | [] => rfl
  | v :: vs => by unfold wipeE; rw [List.length_set, wipeE_len η vs]
theorem wipeE_get {η : Env} {j : Nat} {x : Sl} : ∀ {vs : List Nat}, (wipeE η vs)[j]? = some x → x ≠ .no → η[j]? = some x ∧ j ∉ vs
  | [], h, _ => ⟨h, List.not_mem_nil⟩
  | v :: vs, h, n => by
    unfold wipeE at h
    rcases set_get h with ⟨rfl, q⟩ | ⟨hj, q⟩
    · exact absurd q n
    · obtain ⟨h1, h2⟩ := wipeE_get q n
      exact ⟨h1, fun z => by
        rcases List.mem_cons.mp z with z | z
        · exact hj z
        · exact h2 z⟩
theorem wipe_eq {σ σ' : L2.St} : ∀ {vs is : List Nat}, Chg is (wipe σ vs) σ' → (∀ j ∈ is, j ∈ vs) → wipe σ' vs = wipe σ vs := by
  intro vs is h hs
  have key : ∀ (τ : L2.St) (ws : List Nat) (j : Nat), (wipe τ ws)[j]? = if j ∈ ws then (if j < τ.length then some none else none) else τ[j]? := by
    intro τ ws
    induction ws with
    | nil => intro j; simp [wipe]
    | cons w ws ih =>
      intro j
      unfold wipe
      by_cases hj : j = w
      · subst hj
        rw [if_pos List.mem_cons_self]
        by_cases hl : j < τ.length
        · rw [List.getElem?_set_self (by rw [wipe_length]; exact hl), if_pos hl]
        · rw [List.getElem?_eq_none (by rw [List.length_set, wipe_length]; omega), if_neg hl]
      · rw [List.getElem?_set_ne (Ne.symm hj), ih j]
        by_cases hm : j ∈ ws
        · rw [if_pos hm, if_pos (List.mem_cons_of_mem _ hm)]
        · rw [if_neg hm, if_neg (fun z => by
            rcases List.mem_cons.mp z with z | z
            · exact hj z
            · exact hm z)]
  have hl : σ'.length = σ.length := by rw [h.len, wipe_length]
  apply List.ext_getElem?
  intro j
  rw [key, key, hl]
  by_cases hm : j ∈ vs
  · rw [if_pos hm, if_pos hm]
  · rw [if_neg hm, if_neg hm, h.out j (fun z => hm (hs j z)), key, if_neg hm]
section
variable {M : Mp} {X : Cx} {W : WX} {K : PySem.W.Frag}
theorem Sm.wipe {A : Anc} {σ : L2.St} {H G : Hp} {hs : List Addr} {own : Nat → Addr} {η : Env} {s : DS} (I : Sm K M A σ H G hs own η s) (vs : List Nat) : Sm K M A (wipe σ vs) H G hs own (wipeE η vs) s :=
  ⟨I.sim, I.stp, fun i d e => by
    obtain ⟨h1, h2⟩ := wipeE_get e (fun z => by cases z)
    obtain ⟨v, k1, k2⟩ := I.pl i d h1
    exact ⟨v, by rw [wipe_out h2]; exact k1, k2⟩, fun i d e => by
    obtain ⟨h1, h2⟩ := wipeE_get e (fun z => by cases z)
    obtain ⟨k1, k2⟩ := I.ow i d h1
    exact ⟨by rw [wipe_out h2]; exact k1, k2⟩, fun i j d d' e1 e2 => I.inj i j d d' (wipeE_get e1 (fun z => by cases z)).1 (wipeE_get e2 (fun z => by cases z)).1, by rw [wipeE_len, wipe_length]; exact I.el, fun x d ex e => I.sf x d ex (wipeE_get e (fun z => by cases z)).1⟩
/-- an object that no one tracks is written -/
theorem Sim.updU {H G : Hp} {hs : List Addr} {s : DS} {p : Addr} {o : HO} (J : Sim K M G hs s H) (g : G p = none) (n : p ∉ hs) (t : ¬ inTab M p) (x : ∀ f, H p ≠ some (HO.ext f)) : Sim K M G hs s (upd H p o) :=
  ⟨same_upd2 J.sub g, J.len, J.nd, J.hG, fun k a d e1 e2 => RepAt.upd (J.han k a d e1 e2) fun z => n (by rw [← z]; exact List.mem_of_getElem? e1), tabs_upd J.tab t x, J.tG⟩
def R.nx {α : Type} (r : R α) : R α := match r with
  | .ok a s => .ok a s
  | _ => .bad
def lcF (put : D → Env → Option Env) (ft : Env → DS → R Bool) (fe : Env → DS → R D) (η0 : Env) : List D → DS → R (List D)
  | [], s => .ok [] s
  | d :: ds, s => match put d η0 with
    | none => .bad
    | some η1 => (ft η1 s).nx.bind fun b s1 => if b = true then (fe η1 s1).nx.bind fun y s2 => (lcF put ft fe η0 ds s2).bind fun ys s3 => .ok (y :: ys) s3 else lcF put ft fe η0 ds s1
def lcD (fi : Env → DS → R (List D)) (put : D → Env → Option Env) (ft : Env → DS → R Bool) (fe : Env → DS → R D) (vs : List Nat) : Env → DS → R D := fun η s => (fi η s).bind fun ds s1 =>
  if ds.length ≤ 16777216 then (lcF put ft fe (wipeE η vs) ds s1).bind fun ys s2 => .ok (.lst ys) s2 else .bad
/-- no errors within -/
abbrev W0 : WX := fun _ _ _ _ => False
structure DTs (M : Mp) (X : Cx) (W : WX) (ifs : List Expr) (f : Env → DS → R Bool) : Prop where
  ex : ∃ t, PTs X ifs t ∧ TEx M X W t f
def yesT : Env → DS → R Bool := fun _ s => .ok true s
theorem dts_nil : DTs M X W [] yesT := ⟨_, pts_nil, fun A σ H G hs own η s Q I r => r G hs H (Stp.refl _ _ _ _) I.sim⟩
theorem dts_one {c : Expr} {f : Env → DS → R Bool} (h : DT M X W c f) : DTs M X W [c] f := by
  obtain ⟨t, p, h⟩ := h.ex
  exact ⟨t, pts_one p, h⟩
abbrev BC (X : Cx) (scope : Scope) (s : Shared) (H : Hp) (C : Addr) (cl : List (Str × Addr)) (fp : List Addr) : Cx := X.blk s H scope (compEnvC scope cl C X.env) fp
/-- .. the same meaning in every run of the block -/
theorem blk_e {scope : Scope} {elt : Expr} {fe : Env → DS → R D} (h : ∀ s H C cl fp, DE M (BC X scope s H C cl fp) W0 elt fe) : ∃ te : TE, (∀ s H C cl fp, PE (BC X scope s H C cl fp) elt te) ∧ EEx M X W0 te fe := by
  refine ⟨fun σ H Q => ∀ s H0 C cl fp, Classical.choose (h s H0 C cl fp).ex σ H Q, fun s H0 C cl fp => ⟨fun pins s1 σ H Q I hw => (Classical.choose_spec (h s H0 C cl fp).ex).1.run pins s1 σ H Q I (hw s H0 C cl fp)⟩, ?_⟩
  intro A σ H G hs own η s Q I r s0 H0 C cl fp
  exact (Classical.choose_spec (h s0 H0 C cl fp).ex).2 A σ H G hs own η s Q I r
theorem blk_t {scope : Scope} {ifs : List Expr} {ft : Env → DS → R Bool} (h : ∀ s H C cl fp, DTs M (BC X scope s H C cl fp) W0 ifs ft) : ∃ tt : TT, (∀ s H C cl fp, PTs (BC X scope s H C cl fp) ifs tt) ∧ TEx M X W0 tt ft := by
  refine ⟨fun σ H Q => ∀ s H0 C cl fp, Classical.choose (h s H0 C cl fp).ex σ H Q, fun s H0 C cl fp => ⟨fun pins s1 σ H Q I hw => (Classical.choose_spec (h s H0 C cl fp).ex).1.run pins s1 σ H Q I (hw s H0 C cl fp)⟩, ?_⟩
  intro A σ H G hs own η s Q I r s0 H0 C cl fp
  exact (Classical.choose_spec (h s0 H0 C cl fp).ex).2 A σ H G hs own η s Q I r
abbrev GEx (M : Mp) (X : Cx) (g : TG) (f : D → Env → Option Env) (is : List Nat) : Prop := ∀ (A : Anc) (σ : L2.St) (H G : Hp) (hs : List Addr) (own : Nat → Addr) (η η' : Env) (s : DS) (d : D) (v : V) (Q : L2.St → Hp → Prop), Sm X.K M A σ H G hs own η s → Rep X.K M G hs d v → f d η = some η' →
    (∀ σ', Sm X.K M A σ' H G hs own η' s → Chg is σ σ' → Q σ' H) → g v σ H Q
theorem blk_g {scope : Scope} {tg : Expr} {put : D → Env → Option Env} {is : List Nat} (h : ∀ s H C cl fp, DG M (BC X scope s H C cl fp) tg put is) : ∃ g : TG, (∀ s H C cl fp, PG (BC X scope s H C cl fp) tg g) ∧ GEx M X g put is := by
  refine ⟨fun v σ H Q => ∀ s H0 C cl fp, Classical.choose (h s H0 C cl fp).ex v σ H Q, fun s H0 C cl fp => ⟨fun pins s1 σ H v u Q I r hw => (Classical.choose_spec (h s H0 C cl fp).ex).1.run pins s1 σ H v u Q I r (hw s H0 C cl fp)⟩, ?_⟩
  intro A σ H G hs own η η' s d v Q I hr e k s0 H0 C cl fp
  exact (Classical.choose_spec (h s0 H0 C cl fp).ex).2 A σ H G hs own η η' s d v Q I hr e k
theorem lc_sem {tg iter : Expr} {wi : TI} {g : TG} {tt : TT} {te : TE} {vs is : List Nat} {fi : Env → DS → R (List D)} {put : D → Env → Option Env} {ft : Env → DS → R Bool} {fe : Env → DS → R D}
    (ki : ∀ (A : Anc) (σ : L2.St) (H G : Hp) (hs : List Addr) (own : Nat → Addr) (η : Env) (s : DS) (Q : It → Hp → Prop), Sm X.K M A σ H G hs own η s → RPost X.K M σ W G hs H (fi η s) (fun ds G' hs' _ H' => ∀ J, ItS X.K M G' hs' H' J ds → Q J H') → wi σ H Q)
    (kg : GEx M X g put is) (kt : TEx M X W0 tt ft) (ke : EEx M X W0 te fe) (hv : (is.all fun j => vs.contains j) = true) : FEx M X W (tLc wi g tt te vs) (lcD fi put ft fe vs) := by
  intro A σ H0 G0 hs0 own η s0 Q I0 hp
  refine ki A σ H0 G0 hs0 own η s0 _ I0 (hp.bind.mono fun ds G1 hs1 s1 H1 S1 J1 h1 J hJ D0 hD => ?_)
  split at h1
  case isFalse => exact h1.elim
  rename_i hlen
  have I1 := I0.step S1 J1
  have his : ∀ j ∈ is, j ∈ vs := fun j hj => List.contains_iff_mem.mp (List.all_eq_true.mp hv j hj)
  obtain ⟨fD1, fD2, fD3⟩ := J1.free hD
  refine ⟨fun i m H => ∃ G hs s acc done, Stp M G1 hs1 H1 G hs H ∧ Sim X.K M G hs s H ∧ H D0 = some (.lst acc) ∧ G D0 = none ∧ D0 ∉ hs ∧ acc.length ≤ i ∧ i ≤ ds.length ∧ m = ds.length - i ∧ RepL X.K M G hs done acc ∧
    RPost X.K M σ W G1 hs1 H1 (lcF put ft fe (wipeE η vs) (ds.drop i) s) (fun ys G' hs' s' H' => ∀ p, Nt H0 p → Fr1 X.K M G' hs' H' (.lst (done ++ ys)) p → Q (.ref p) H'),
    ⟨ds.length, G1, hs1, s1, [], [], Stp.extH (fun a u e => by rw [upd_ne (ne_of_none e hD)]; exact e), J1.extH (fun a u e => by rw [upd_ne (ne_of_none e hD)]; exact e), upd_same, fD1, fD2, Nat.le_refl _, Nat.zero_le _, rfl, repL_nil.mpr rfl, ?_⟩, ?_⟩
  · rw [List.drop_zero]
    refine RPost.mono h1.bind fun ys G' hs' s' H' S' J' k p => ?_
    exact k G' hs' H' (Stp.refl _ _ _ _) J' p
  rintro i m H ⟨G, hs, s, acc, done, S, J2, eD, gD, nD, ha, hi, rfl, hdone, hr⟩
  obtain ⟨stop, go⟩ := hJ G hs s H S J2 i
  cases q : ds[i]? with
  | none =>
    have hn : ds.drop i = [] := List.drop_eq_nil_of_le (List.getElem?_eq_none_iff.mp q)
    rw [hn] at hr
    refine .inl ⟨stop q, ?_⟩
    refine hr G hs H S J2 D0 (S1.dm _ (nt_none hD)) ⟨⟨acc, eD, by rw [List.append_nil]; exact hdone⟩, gD, nD, fD3⟩
  | some d =>
    have hlt : i < ds.length := (List.getElem?_eq_some_iff.mp q).1
    obtain ⟨go1, go2⟩ := go d q
    have hd : ds.drop i = d :: ds.drop (i + 1) := by
      rw [List.drop_eq_getElem_cons hlt]
      congr 1
      rw [List.getElem?_eq_getElem hlt] at q
      exact Option.some.inj q
    rw [hd, lcF] at hr
    refine .inr ⟨go1, _, fun H' h => ⟨ds.length - (i + 1), by omega, h⟩, fun x H2 y => ?_⟩
    obtain ⟨G2, S2, J3, hx⟩ := go2 x H2 y
    have a2 := S2.away eD nD gD (fun ps z => by cases z)
    have eD2 := S2.kp _ _ eD nD (fun ps z => by cases z)
    have SS2 := S.trans S2
    split at hr
    · exact hr.elim
    rename_i η1 e1
    have I2 := (I1.step SS2 J3).wipe vs
    refine kg A _ H2 G2 hs own _ η1 s d x _ I2 hx e1 fun σ2 I3 chg => ⟨wipe_eq chg his, ?_⟩
    refine kt A σ2 H2 G2 hs own η1 s _ I3 ?_
    cases qt : ft η1 s with
    | ex c p s' => rw [qt] at hr; exact hr.elim
    | bad => rw [qt] at hr; exact hr.elim
    | ok b s3 =>
      rw [qt] at hr
      intro G3 hs3 H3 S3 J4
      have a3 := S3.away eD2 nD a2.1 (fun ps z => by cases z)
      have eD3 := S3.kp _ _ eD2 nD (fun ps z => by cases z)
      have SS3 := SS2.trans S3
      have hr2 : RPost X.K M σ W G1 hs1 H1 (if b = true then (fe η1 s3).nx.bind fun y s2 => (lcF put ft fe (wipeE η vs) (ds.drop (i + 1)) s2).bind fun ys s3 => .ok (y :: ys) s3 else lcF put ft fe (wipeE η vs) (ds.drop (i + 1)) s3) _ := hr
      cases b with
      | false =>
        rw [if_neg Bool.false_ne_true] at hr2 ⊢
        exact ⟨G3, hs3, s3, acc, done, SS3, J4, eD3, a3.1, a3.2, by omega, hlt, rfl, hdone.mono (S2.gg.trans S3.gg) (S2.hp.trans S3.hp), hr2⟩
      | true =>
        rw [if_pos rfl] at hr2 ⊢
        have I4 := I3.step S3 J4
        refine ke A σ2 H3 G3 hs3 own η1 s3 _ I4 ?_
        cases qe : fe η1 s3 with
        | ex c p s' => rw [qe] at hr2; exact hr2.elim
        | bad => rw [qe] at hr2; exact hr2.elim
        | ok z s4 =>
          rw [qe] at hr2
          intro G4 hs4 H4 S4 J5 v hv
          have a4 := S4.away eD3 a3.2 a3.1 (fun ps z => by cases z)
          have eD4 := S4.kp _ _ eD3 a3.2 (fun ps z => by cases z)
          have SS4 := SS3.trans S4
          refine ⟨acc, eD4, by rw [line_]; omega, G4, hs4, s4, acc ++ [v], done ++ [z], ⟨SS4.gg, SS4.fr, SS4.hp, SS4.hf, fun a u e n t => ?_, fun a e => ?_⟩, J5.updU a4.1 a4.2 fD3 (by rw [eD4]; exact fun f z => by cases z), upd_same, a4.1, a4.2, by rw [List.length_append]; simp; omega, hlt, rfl, ?_, ?_⟩
          · rw [upd_ne (ne_of_none e hD)]
            exact SS4.kp a u e n t
          · by_cases z : a = D0
            · rw [z]; exact nt_none hD
            · exact SS4.dm a fun u q => e u (by rw [upd_ne z]; exact q)
          · exact (hdone.mono ((S2.gg.trans S3.gg).trans S4.gg) ((S2.hp.trans S3.hp).trans S4.hp)).append (repL_cons.mpr ⟨v, [], rfl, hv, repL_nil.mpr rfl⟩)
          · have hr3 : RPost X.K M σ W G1 hs1 H1 ((lcF put ft fe (wipeE η vs) (ds.drop (i + 1)) s4).bind fun ys s3 => .ok (z :: ys) s3) _ := hr2
            refine RPost.mono hr3.bind fun ys G' hs' s' H' S' J' k p hp0 fr => ?_
            refine k G' hs' H' (Stp.refl _ _ _ _) J' p hp0 ?_
            rw [List.append_assoc] at fr
            exact fr
theorem df_lc {elt tg iter : Expr} {ifs : List Expr} {scope : Scope} {own : List (Str × Nat)} {pos : Pos} {is : List Nat} {fi : Env → DS → R (List D)} {put : D → Env → Option Env} {ft : Env → DS → R Bool} {fe : Env → DS → R D} (hc : X.calm = true) (hN : X.N.Nodup) (hi : DIS M X W tg iter fi) (ok : blkC X.N X.env.scope scope own = true)
    (hg : ∀ s H C cl fp, DG M (BC X scope s H C cl fp) tg put is) (ht : ∀ s H C cl fp, DTs M (BC X scope s H C cl fp) W0 ifs ft) (he : ∀ s H C cl fp, DE M (BC X scope s H C cl fp) W0 elt fe) (hv : (is.all fun j => (own.map (·.2)).contains j) = true := by rfl) (hs : ∀ x, foldedSetIterable iter X.env x = pure x := by intro _; rfl) :
    DF M X W (.ListComp elt [⟨tg, iter, ifs, 0⟩] scope pos) (lcD fi put ft fe (own.map (·.2))) := by
  obtain ⟨wi, pi, ki⟩ := hi.ex
  obtain ⟨g, pg, kg⟩ := blk_g hg
  obtain ⟨tt, pt, kt⟩ := blk_t ht
  obtain ⟨te, pe, ke⟩ := blk_e he
  exact ⟨_, pe_lc hc hN pi (blkOk_by ok) pg pt pe hs, lc_sem (tg := tg) (iter := iter) ki kg kt ke hv⟩
theorem set_semO {t : TE} {f : Env → DS → R D} (i : Nat) (h : FEx M X W t f) : SEx M X W (tAsg t (gName i)) (setOB i f) := fun A σ H G hs own η s E I hp =>
  h A σ H G hs own η s _ I ((hp.lift I).mono fun d G1 hs1 s1 H1 S1 J1 h1 p h0 fr => FPost.putO I S1 J1 h0 fr h1)
theorem FEx.de {t : TE} {f : Env → DS → R D} (h : FEx M X W t f) : EEx M X W t (calmD f) := by
  intro A σ H G hs own η s Q I hp
  refine h A σ H G hs own η s Q I ?_
  unfold calmD at hp
  cases q : f η s with
  | ok d s1 =>
    rw [q] at hp
    have hp2 : RPost X.K M σ W G hs H (if notObj d = true then R.ok d s1 else .bad) (fun d G' hs' _ H' => ∀ v, Rep X.K M G' hs' d v → Q v H') := hp
    intro G1 hs1 H1 S1 J1 p hp0 fr
    by_cases hn : notObj d = true
    · rw [if_pos hn] at hp2
      obtain ⟨o, ho, hr⟩ := at_rep fr.g fr.at_ (notObj_of hn)
      exact hp2 _ hs1 H1 (S1.still hp0 fr.g) (J1.still ho fr.h fr.t fr.g (at_no fr.at_ ho)) _ hr
    · rw [if_neg hn] at hp2
      exact hp2.elim
  | ex c p s1 => rw [q] at hp; exact hp
  | bad => rw [q] at hp; exact hp
theorem set_sem {t : TE} {f : Env → DS → R D} (i : Nat) (h : EEx M X W t f) : SEx M X W (tAsg t (gName i)) (setB i f) := fun A σ H G hs own η s E I hp =>
  h A σ H G hs own η s _ I ((hp.lift I).mono fun d G1 hs1 s1 H1 S1 J1 h1 v hv => FPost.put (I.step S1 J1) hv h1)
section
variable {i : Nat} {y : Str} {py : Pos} {elt tg iter : Expr} {ifs : List Expr} {scope : Scope} {own : List (Str × Nat)} {pos spos : Pos} {is : List Nat} {fi : Env → DS → R (List D)} {put : D → Env → Option Env} {ft : Env → DS → R Bool} {fe : Env → DS → R D}
theorem ds_setLcO (i : Nat) (hc : X.calm = true) (hN : X.N.Nodup) (hi : DIS M X W tg iter fi) (ok : blkC X.N X.env.scope scope own = true)
    (hg : ∀ s H C cl fp, DG M (BC X scope s H C cl fp) tg put is) (ht : ∀ s H C cl fp, DTs M (BC X scope s H C cl fp) W0 ifs ft) (he : ∀ s H C cl fp, DE M (BC X scope s H C cl fp) W0 elt fe) (hy : X.N[i]? = some y := by rfl) (hyl : X.env.scope.names.lookup y = some .local := by rfl)
    (hsw : swapsWith (.ListComp elt [⟨tg, iter, ifs, 0⟩] scope pos) (some (.Name y py)) spos.line X.env = pure true := by exact sw_true rfl rfl rfl rfl) (hv : (is.all fun j => (own.map (·.2)).contains j) = true := by rfl) (hs : ∀ x, foldedSetIterable iter X.env x = pure x := by intro _; rfl) :
    DSt M X W (.Assign [.Name y py] (.ListComp elt [⟨tg, iter, ifs, 0⟩] scope pos) spos) (setOB i (lcD fi put ft fe (own.map (·.2)))) := by
  obtain ⟨wi, pi, ki⟩ := hi.ex
  obtain ⟨g, pg, kg⟩ := blk_g hg
  obtain ⟨tt, pt, kt⟩ := blk_t ht
  obtain ⟨te, pe, ke⟩ := blk_e he
  exact ⟨_, ps_setLc hc hN hy hyl hsw pi (blkOk_by ok) pg pt pe hs, set_semO i (lc_sem (tg := tg) (iter := iter) ki kg kt ke hv)⟩
theorem ds_setLc (i : Nat) (hc : X.calm = true) (hN : X.N.Nodup) (hi : DIS M X W tg iter fi) (ok : blkC X.N X.env.scope scope own = true)
    (hg : ∀ s H C cl fp, DG M (BC X scope s H C cl fp) tg put is) (ht : ∀ s H C cl fp, DTs M (BC X scope s H C cl fp) W0 ifs ft) (he : ∀ s H C cl fp, DE M (BC X scope s H C cl fp) W0 elt fe) (hy : X.N[i]? = some y := by rfl) (hyl : X.env.scope.names.lookup y = some .local := by rfl)
    (hsw : swapsWith (.ListComp elt [⟨tg, iter, ifs, 0⟩] scope pos) (some (.Name y py)) spos.line X.env = pure true := by exact sw_true rfl rfl rfl rfl) (hv : (is.all fun j => (own.map (·.2)).contains j) = true := by rfl) (hs : ∀ x, foldedSetIterable iter X.env x = pure x := by intro _; rfl) :
    DSt M X W (.Assign [.Name y py] (.ListComp elt [⟨tg, iter, ifs, 0⟩] scope pos) spos) (setB i (calmD (lcD fi put ft fe (own.map (·.2))))) := by
  obtain ⟨wi, pi, ki⟩ := hi.ex
  obtain ⟨g, pg, kg⟩ := blk_g hg
  obtain ⟨tt, pt, kt⟩ := blk_t ht
  obtain ⟨te, pe, ke⟩ := blk_e he
  exact ⟨_, ps_setLc hc hN hy hyl hsw pi (blkOk_by ok) pg pt pe hs, set_sem i (lc_sem (tg := tg) (iter := iter) ki kg kt ke hv).de⟩
end
end
end DL
set_option Elab.async false
set_option linter.all false
set_option maxRecDepth 100000
set_option maxHeartbeats 2000000
namespace DL
open PySem PySem.Spec PyProof.Rows L2

/-! ### promises -/
abbrev WofE (E : XK) : WX := fun cls dx _ H => E cls dx H
/-- f(ds) at the state s gives what g says -/
def SpD (K : PySem.W.Frag) (M : Mp) (n : Nat) (g : List D → DS → R D) : Sp := fun vs H Q E => ∃ (G : Hp) (hs : List Addr) (s : DS) (ds : List D), Sim K M G hs s H ∧ RepL K M G hs ds vs ∧ ds.length = n ∧
  RPost K M [] (WofE E) G hs H (g ds s) (fun d G' hs' _ H' => ∀ v, Rep K M G' hs' d v → Q v H')
/-- C's __init__ makes of a new instance what g says -/
def SpI (K : PySem.W.Frag) (M : Mp) (c n : Nat) (g : List D → DS → R D) : Sp := fun vs H Q E => ∃ (G : Hp) (hs : List Addr) (s : DS) (ds : List D) (x dx : Addr) (H0 : Hp) (vs' : List V), vs = .ref x :: vs' ∧ H0 x = none ∧ H0 dx = none ∧ dx ≠ x ∧ H = upd (upd H0 dx (.own x)) x (.ins (M.cls c) dx []) ∧
  Sim K M G hs s H0 ∧ RepL K M G hs ds vs' ∧ ds.length + 1 = n ∧ RPost K M [] (WofE E) G hs H0 (g ds s) (fun d G' hs' _ H' => Fr1 K M G' hs' H' d x → Q .non H')
def padE (n : Nat) (ds : List Sl) : Env := ds ++ List.replicate (n - ds.length) .no
def fnD (n : Nat) (body : Env → DS → F) : List D → DS → R D := fun ds s => match body (padE n (ds.map .v)) s with
  | .nx _ s1 => .ok .non s1
  | .rt d s1 => .ok d s1
  | .ex c p _ s1 => .ex c p s1
  | _ => .bad
def inD (c n : Nat) (body : Env → DS → F) : List D → DS → R D := fun ds s => match body (padE n (.o (.obj c []) :: ds.map .v)) s with
  | .nx η s1 => (match η[0]? with
    | some (Sl.o d) => .ok d s1
    | _ => .bad)
  | .ex c p _ s1 => .ex c p s1
  | _ => .bad
section
variable {M : Mp} {X : Cx} {W : WX} {K : PySem.W.Frag} {P : Program} {w : World} {mg : Str → Option Value} {base : Heap}
theorem pad_get {n : Nat} {l : List Sl} {i : Nat} {x : Sl} (h : (padE n l)[i]? = some x) (hx : x ≠ .no) : l[i]? = some x := by
  unfold padE at h
  by_cases hi : i < l.length
  · rwa [List.getElem?_append_left hi] at h
  · rw [List.getElem?_append_right (by omega), List.getElem?_replicate] at h
    split at h
    · cases h; exact absurd rfl hx
    · cases h
theorem start_get {N : List Str} {vs : List V} {i : Nat} {v : V} (h : vs[i]? = some v) : (L2.start N vs)[i]? = some (some v) := by
  unfold L2.start
  rw [List.getElem?_append_left (by rw [List.length_map]; exact (List.getElem?_eq_some_iff.mp h).1), List.getElem?_map, h]
  rfl
theorem start_len {N : List Str} {vs : List V} : (L2.start N vs).length = vs.length + (N.length - vs.length) := by
  unfold L2.start
  rw [List.length_append, List.length_map, List.length_replicate]


/-- the body of a def, by its mirror -/
abbrev BodyD (M : Mp) (P : Program) (w : World) (K : PySem.W.Frag) (mg : Str → Option Value) (base : Heap) (k : Nat) (N : List Str) (qual : Str) (st : Stmt) (f : Addr) (body : Env → DS → F) : Prop := ∀ (cdv : Value) (A : Around) (outer : List PySem.Env) (s : Shared) (H : Hp) (E : XK),
  Room k (A.deeper (envOfC qual (defScope st) s.heap.objs.size f cdv)) → DSs M (cxOf (L2.CX P w) P w K mg base N qual (defScope st) f cdv A outer s H E) (WofE E) (defBody st) body
theorem fnD_post {A : Anc} {E : XK} {Q : VK} {n : Nat} {body : Env → DS → F} {ds : List D} {s : DS} (hp : RPost K M [] (WofE E) A.G A.hs A.H (fnD n body ds s) (fun d G' hs' _ H' => ∀ v, Rep K M G' hs' d v → Q v H')) :
    FPost K M A (WofE E) { nx := fun _ H' => Q .non H', rt := Q } (body (padE n (ds.map .v)) s) := by
  unfold fnD at hp
  split at hp
  · rename_i e
    rw [e]
    exact fun σ H G hs own I => hp G hs H I.stp I.sim .non (rep_non.mpr rfl)
  · rename_i e
    rw [e]
    exact fun H G hs v S J r => hp G hs H S J v r
  · rename_i e
    rw [e]
    exact fun σ H G hs own cls dx I x => hp G hs H cls dx I.stp I.sim x
  · exact hp.elim
theorem fn_okD {x qual : Str} {st : Stmt} {f : Addr} {fd : FuncData} {N ps : List Str} {k : Nat} {body : Env → DS → F} (F : Fun K x qual st f fd) (S : FnScope N ps (defScope st)) (hb : BodyD M P w K mg base k N qual st f body) : FnOk P w K mg base (L2.CX P w) (k + 1) f fd ps (SpD K M ps.length (fnD N.length body)) := by
  refine F.okX S (fun vs H Q E ⟨G, hs, s, ds, _, r, hl, _⟩ => by rw [← r.length, hl]) fun cdv A outer s0 H vs Q E hr ⟨G, hs, s, ds, J, r, hl, hp⟩ => ?_
  obtain ⟨t, pt, h⟩ := (hb cdv A outer s0 H E hr).ex
  refine ⟨t, pt, h ⟨G, hs, H, none⟩ (L2.start N vs) H G hs (fun _ => 0) (padE N.length (ds.map .v)) s _ ⟨J, Stp.refl _ _ _ _, fun i d e => ?_, fun i d e => ?_, fun i j d d' e => ?_, ?_, fun _ _ z => by cases z⟩ (fnD_post (A := ⟨G, hs, H, none⟩) hp)⟩
  · have e1 := pad_get e (fun z => by cases z)
    rw [List.getElem?_map, Option.map_eq_some_iff] at e1
    obtain ⟨d', e2, e3⟩ := e1
    cases e3
    obtain ⟨v, h1, h2⟩ := r.get e2
    exact ⟨v, start_get h1, h2⟩
  · have e1 := pad_get e (fun z => by cases z)
    rw [List.getElem?_map, Option.map_eq_some_iff] at e1
    obtain ⟨d', e2, e3⟩ := e1
    cases e3
  · have e1 := pad_get e (fun z => by cases z)
    rw [List.getElem?_map, Option.map_eq_some_iff] at e1
    obtain ⟨d', e2, e3⟩ := e1
    cases e3
  · rw [start_len, ← r.length]
    unfold padE
    rw [List.length_append, List.length_replicate, List.length_map]
theorem in_okD {x qual : Str} {st : Stmt} {f : Addr} {fd : FuncData} {N ps : List Str} {k c : Nat} {body : Env → DS → F} (F : Fun K x qual st f fd) (S : FnScope N ps (defScope st)) (hb : BodyD M P w K mg base k N qual st f body) : FnOk P w K mg base (L2.CX P w) (k + 1) f fd ps (SpI K M c ps.length (inD c N.length body)) := by
  refine F.okX S (fun vs H Q E ⟨G, hs, s, ds, x, dx, H0, vs', e, _, _, _, _, _, r, hl, _⟩ => by rw [e, List.length_cons, ← r.length, hl]) fun cdv A outer s0 H vs Q E hr ⟨G, hs, s, ds, x, dx, H0, vs', e, h1, h2, h3, h4, J, r, hl, hp⟩ => ?_
  subst e h4
  obtain ⟨t, pt, h⟩ := (hb cdv A outer s0 _ E hr).ex
  have ext : ∀ a o, H0 a = some o → upd (upd H0 dx (.own x)) x (.ins (M.cls c) dx []) a = some o := fun a o e => by
    rw [upd_ne (ne_of_none e h1), upd_ne (ne_of_none e h2)]
    exact e
  obtain ⟨f1, f2, f3⟩ := J.free h1
  have own0 : ∀ {i : Nat} {d : D}, (padE N.length (.o (.obj c []) :: ds.map .v))[i]? = some (.o d) → i = 0 ∧ d = .obj c [] := fun {i d} e => by
    have e1 := pad_get e (fun z => by cases z)
    cases i with
    | zero => simp at e1; exact ⟨rfl, e1.symm⟩
    | succ i =>
      rw [List.getElem?_cons_succ, List.getElem?_map, Option.map_eq_some_iff] at e1
      obtain ⟨d', e2, e3⟩ := e1
      cases e3
  refine ⟨t, pt, h ⟨G, hs, H0, some x⟩ (L2.start N (.ref x :: vs')) _ G hs (fun _ => x) (padE N.length (.o (.obj c []) :: ds.map .v)) s _ ⟨J.extH ext, Stp.extH ext, fun i d e => ?_, fun i d e => ?_, fun i j d d' e e' _ => by rw [(own0 e).1, (own0 e').1], ?_, fun y d z _ => Option.some.inj z⟩ ?_⟩
  · have e1 := pad_get e (fun z => by cases z)
    cases i with
    | zero => simp at e1
    | succ i =>
      rw [List.getElem?_cons_succ, List.getElem?_map, Option.map_eq_some_iff] at e1
      obtain ⟨d', e2, e3⟩ := e1
      cases e3
      obtain ⟨v, h1, h2⟩ := r.get e2
      exact ⟨v, start_get (by rw [List.getElem?_cons_succ]; exact h1), h2⟩
  · obtain ⟨rfl, rfl⟩ := own0 e
    exact ⟨start_get rfl, ⟨dx, [], upd_same, by simp, repL_nil.mpr rfl⟩, f1, f2, f3, nt_none h1⟩
  · rw [start_len]
    unfold padE
    rw [List.length_append, List.length_replicate, List.length_cons, List.length_cons, List.length_map, r.length]
  · unfold inD at hp
    split at hp
    · rename_i η s1 e
      rw [e]
      intro σ H' G' hs' own I
      split at hp
      · rename_i d e0
        obtain ⟨k1, k2, k3, k4, k5, k6⟩ := I.ow 0 d e0
        rw [I.sf x d rfl e0] at k2 k3 k4 k5
        exact hp G' hs' H' I.stp I.sim ⟨k2, k3, k4, k5⟩
      · exact hp.elim
    · rename_i e
      rw [e]
      exact fun σ H G hs own cls dx I x => hp G hs H cls dx I.stp I.sim x
    · exact hp.elim
end
end DL
set_option Elab.async false
set_option linter.all false
set_option maxRecDepth 100000
set_option maxHeartbeats 2000000
namespace DL
open PySem PySem.Spec PyProof.Rows L2

section
variable {M : Mp} {X : Cx} {W : WX} {x m : Str} {e o : Expr} {es : List Expr} {p pos apos : Pos} {fa : Env → DS → R (List D)} {fo : Env → DS → R D}
def callD (g : List D → DS → R D) (fa : Env → DS → R (List D)) : Env → DS → R D := fun η s => (fa η s).bind fun ds s1 => g ds s1
def gateD (n : Nat) (g : List D → DS → R D) : List D → DS → R D := fun ds s => if ds.length = n then g ds s else .bad
theorem RPost.sig {K : PySem.W.Frag} {σ σ' : L2.St} {G H : Hp} {hs : List Addr} {α : Type} {r : R α} {E : XK} {k : α → Hp → List Addr → DS → Hp → Prop} (hE : ∀ c d H', W c d σ H' → E c d H') (h : RPost K M σ W G hs H r k) : RPost K M σ' (WofE E) G hs H r k := by
  cases r with
  | ok a s => exact h
  | ex c p s => exact fun G' hs' H' cls dx S J x => hE _ _ _ (h G' hs' H' cls dx S J x)
  | bad => exact h
theorem spd_of {K : PySem.W.Frag} {σ : L2.St} {G H : Hp} {hs : List Addr} {s : DS} {ds : List D} {vs : List V} {n : Nat} {g : List D → DS → R D} {Q : VK} {E : XK} (hE : ∀ c d H', W c d σ H' → E c d H') (J : Sim K M G hs s H) (r : RepL K M G hs ds vs)
    (h : RPost K M σ W G hs H (gateD n g ds s) (fun d G' hs' _ H' => ∀ v, Rep K M G' hs' d v → Q v H')) : SpD K M n g vs H Q E := by
  unfold gateD at h
  split at h
  · rename_i hl
    exact ⟨G, hs, s, ds, J, r, hl, h.sig hE⟩
  · exact h.elim
theorem de_call {k : Nat} {f : Addr} {fd : FuncData} {ps : List Str} {n : Nat} {g : List D → DS → R D} (F : FnOk X.prog X.w X.K X.mg X.base (L2.CX X.prog X.w) k f fd ps (SpD X.K M n g)) (hb : Binds X.K fd ps []) (hk : PySem.W.keepIn X.K (.ref f) = true) (hm : X.mg x = some (.ref f)) (hr : Room k X.A) (tk : Takes X W) (ha : DA M X W (e :: es) fa)
    (hg : Gl X x := by rfl) (hdb : (x == ("__debug__" : Str)) = false := by decide) (he : starEach (e :: es) X.env = (false, eval e X.env) :: starEach es X.env := by rfl) (hpl : (backTo pos (starEach es X.env)).any (·.1) = false := by rfl) :
    DE M X W (.Call (.Name x p) (e :: es) [] pos) (callD (gateD n g) fa) := by
  obtain ⟨t, pt, h⟩ := ha.ex
  refine ⟨_, pe_callS F hr hg hm hk hb (fun σ => passAt tk σ) pt hdb he hpl, fun A σ H G hs own η s Q I hp => ?_⟩
  exact h A σ H G hs own η s _ I (hp.bind.mono fun ds G1 hs1 s1 H1 S1 J1 h1 vs hvs => spd_of (fun _ _ _ z => z) J1 hvs h1)
/-- W does not look at the names -/
abbrev Flat (W : WX) : Prop := ∀ c d σ σ' H, W c d σ H → W c d σ' H
abbrev WU (W : WX) : XK := fun c d H => ∃ σ, W c d σ H
def isC (c : Nat) : D → Bool
  | .obj c' _ => c' == c
  | _ => false
def methD (c : Nat) (g : List D → DS → R D) (fo : Env → DS → R D) (fa : Env → DS → R (List D)) : Env → DS → R D := fun η s => (fo η s).bind fun o s1 => if isC c (deref s1 o) = true then (fa η s1).bind fun ds s2 => g (o :: ds) s2 else .bad
theorem isC_at {K : PySem.W.Frag} {G H : Hp} {hs : List Addr} {s : DS} {d : D} {v : V} {c : Nat} (J : Sim K M G hs s H) (hm : (M.flds c).contains m = false) (h : Rep K M G hs d v) (e : isC c (deref s d) = true) : ∃ a dx fs, v = .ref a ∧ H a = some (.ins (M.cls c) dx fs) ∧ fs.lookup m = none := by
  have nl : ∀ {fs : List (Str × V)}, m ∉ fs.map (·.1) → fs.lookup m = none := fun {fs} => by
    induction fs with
    | nil => intro _; rfl
    | cons q fs ih =>
      intro z
      rw [List.map_cons, List.mem_cons, not_or] at z
      obtain ⟨g, w⟩ := q
      have hne : (m == g) = false := by simpa using z.1
      rw [List.lookup_cons, hne]
      exact ih z.2
  have hm' : m ∉ M.flds c := fun z => by
    rw [List.contains_iff_mem.mpr z] at hm; cases hm
  rcases (BV.read J (.inl h)) with q | ⟨a, rfl, q⟩
  · generalize deref s d = d2 at e q
    unfold isC at e
    split at e
    · rename_i c' ds
      have hc : c' = c := by simpa using e
      subst hc
      obtain ⟨a, dx, fs, rfl, h1, h2, h3⟩ := rep_obj.mp q
      exact ⟨a, dx, fs, rfl, J.sub _ _ h1, nl (by rw [h2]; exact hm')⟩
    · cases e
  · generalize deref s d = d2 at e q
    unfold isC at e
    split at e
    · rename_i c' ds
      have hc : c' = c := by simpa using e
      subst hc
      obtain ⟨dx, fs, h1, h2, h3⟩ := q
      exact ⟨a, dx, fs, rfl, h1, nl (by rw [h2]; exact fun z => hm' (List.mem_of_mem_take z))⟩
    · cases e
theorem de_meth {pl : Sem Bool} {k c : Nat} {f : Addr} {fd : FuncData} {ps : List Str} {n : Nat} {g : List D → DS → R D} (F : FnOk X.prog X.w X.K X.mg X.base (L2.CX X.prog X.w) k f fd ps (SpD X.K M n g)) (hb : Binds X.K fd ps []) (C : ClsOk X.K M c) (hme : Meth X.K (M.cls c) m f) (hr : Room k X.A) (tk : Takes X W) (hW : Flat W) (ho : DE M X W o fo) (ha : DA M X W (e :: es) fa)
    (hn : (M.flds c).contains m = false := by rfl) (hst : starEach (e :: es) X.env = (false, eval e X.env) :: starEach es X.env := by rfl) (hpl : (backTo pos (starEach es X.env)).any (·.1) = false := by rfl)
    (ht : eval (.Call (.Attribute o m apos) (e :: es) [] pos) X.env = (do
      let ov ← eval o X.env
      standAt apos.atName
      let (f, first) ← holding [ov] (getMethod ov m pl)
      callWith pos f first (backTo pos (starEach (e :: es) X.env)) (backToKw pos (keywordEach [] X.env))) := by rfl) :
    DE M X W (.Call (.Attribute o m apos) (e :: es) [] pos) (methD c (gateD n g) fo fa) := by
  obtain ⟨t, pt, h⟩ := ho.ex
  obtain ⟨ta, pa, ka⟩ := ha.ex
  refine ⟨_, pe_meth (pl := pl) (E := WU W) pt C.cl hme F hr hb (dvs := []) Paired.nil (passes_call tk fun c d σ H ⟨σ', z⟩ => hW c d σ' σ H z) pa hst hpl ht, fun A σ H G hs own η s Q I hp => ?_⟩
  refine h A σ H G hs own η s _ I (hp.bind.mono fun d G1 hs1 s1 H1 S1 J1 h1 v hv => ?_)
  split at h1
  · rename_i hc
    obtain ⟨a, dx, fs, rfl, e1, e2⟩ := isC_at J1 hn hv hc
    refine ⟨a, dx, fs, rfl, e1, e2, ?_⟩
    refine ka A σ H1 G1 hs1 own η s1 _ (I.step S1 J1) (h1.bind.mono fun ds G2 hs2 s2 H2 S2 J2 h2 vs hvs => ?_)
    rw [List.append_nil]
    exact spd_of (fun _ _ _ z => ⟨σ, z⟩) J2 (repL_cons.mpr ⟨_, _, rfl, hv.mono S2.gg S2.hp, hvs⟩) h2
  · exact h1.elim
theorem de_meth0 {pl : Sem Bool} {k c : Nat} {f : Addr} {fd : FuncData} {ps : List Str} {n : Nat} {g : List D → DS → R D} (F : FnOk X.prog X.w X.K X.mg X.base (L2.CX X.prog X.w) k f fd ps (SpD X.K M n g)) (hb : Binds X.K fd ps []) (C : ClsOk X.K M c) (hme : Meth X.K (M.cls c) m f) (hr : Room k X.A) (tk : Takes X W) (hW : Flat W) (ho : DE M X W o fo)
    (hn : (M.flds c).contains m = false := by rfl)
    (ht : eval (.Call (.Attribute o m apos) [] [] pos) X.env = (do
      let ov ← eval o X.env
      standAt apos.atName
      let (f, first) ← holding [ov] (getMethod ov m pl)
      callWith pos f first (backTo pos (starEach [] X.env)) (backToKw pos (keywordEach [] X.env))) := by rfl) :
    DE M X W (.Call (.Attribute o m apos) [] [] pos) (methD c (gateD n g) fo nilA) := by
  obtain ⟨t, pt, h⟩ := ho.ex
  refine ⟨_, pe_meth0 (pl := pl) (E := WU W) pt C.cl hme F hr hb (dvs := []) Paired.nil (passes_call tk fun c d σ H ⟨σ', z⟩ => hW c d σ' σ H z) ht, fun A σ H G hs own η s Q I hp => ?_⟩
  refine h A σ H G hs own η s _ I (hp.bind.mono fun d G1 hs1 s1 H1 S1 J1 h1 v hv => ?_)
  split at h1
  · rename_i hc
    obtain ⟨a, dx, fs, rfl, e1, e2⟩ := isC_at J1 hn hv hc
    refine ⟨a, dx, fs, rfl, e1, e2, ?_⟩
    exact spd_of (W := W) (σ := σ) (fun _ _ _ z => ⟨σ, z⟩) J1 (repL_cons.mpr ⟨_, _, rfl, hv, repL_nil.mpr rfl⟩) h1
  · exact h1.elim

theorem de_call0 {k : Nat} {f : Addr} {fd : FuncData} {ps : List Str} {n : Nat} {g : List D → DS → R D} (F : FnOk X.prog X.w X.K X.mg X.base (L2.CX X.prog X.w) k f fd ps (SpD X.K M n g)) (hb : Binds X.K fd ps []) (hk : PySem.W.keepIn X.K (.ref f) = true) (hm : X.mg x = some (.ref f)) (hr : Room k X.A) (tk : Takes X W) (hW : Flat W)
    (hg : Gl X x := by rfl) (hdb : (x == ("__debug__" : Str)) = false := by decide) :
    DE M X W (.Call (.Name x p) [] [] pos) (callD (gateD n g) nilA) := by
  refine ⟨_, pe_call0 (E := WU W) F hr hg hm hk hb (dvs := []) Paired.nil (passes_call tk fun c d σ H ⟨σ', z⟩ => hW c d σ' σ H z) hdb, fun A σ H G hs own η s Q I hp => ?_⟩
  have hp2 : RPost X.K M σ W G hs H (gateD n g [] s) (fun d G' hs' _ H' => ∀ v, Rep X.K M G' hs' d v → Q v H') := hp
  exact spd_of (W := W) (σ := σ) (fun _ _ _ z => ⟨σ, z⟩) I.sim (repL_nil.mpr rfl) hp2

/-! ### C(..) -/
theorem df_make {k c : Nat} {f : Addr} {fd : FuncData} {ps : List Str} {n : Nat} {g : List D → DS → R D} (F : FnOk X.prog X.w X.K X.mg X.base (L2.CX X.prog X.w) k f fd ps (SpI X.K M c (n + 1) g)) (hb : Binds X.K fd ps []) (mk : Mk X.K (M.cls c) f) (hm : X.mg x = some (.ref (M.cls c))) (hr : Room (k + 1) X.A) (tk : Takes X W) (hW : Flat W) (ha : DA M X W (e :: es) fa)
    (hg : Gl X x := by rfl) (hdb : (x == ("__debug__" : Str)) = false := by decide) (he : starEach (e :: es) X.env = (false, eval e X.env) :: starEach es X.env := by rfl) (hpl : (backTo pos (starEach es X.env)).any (·.1) = false := by rfl) :
    DF M X W (.Call (.Name x p) (e :: es) [] pos) (callD (gateD n g) fa) := by
  obtain ⟨t, pt, h⟩ := ha.ex
  refine ⟨_, pe_make (E := WU W) mk F hr hg hm hb (dvs := []) Paired.nil (passes_call tk fun c d σ H ⟨σ', z⟩ => hW c d σ' σ H z) pt hdb he hpl, fun A σ H G hs own η s Q I hp => ?_⟩
  refine h A σ H G hs own η s _ I (hp.bind.mono fun ds G1 hs1 s1 H1 S1 J1 h1 vs hvs x dx hx hdx hne => ?_)
  unfold gateD at h1
  split at h1
  · rename_i hl
    refine ⟨G1, hs1, s1, ds, x, dx, H1, vs, by rw [List.append_nil], hx, hdx, hne, rfl, J1, hvs, by rw [hl], ?_⟩
    refine (h1.sig (E := WU W) (fun _ _ _ z => ⟨σ, z⟩)).mono fun d G2 hs2 s2 H2 S2 J2 h2 fr => ⟨rfl, h2 x (S1.dm _ (nt_none hx)) fr⟩
  · exact h1.elim
theorem df_make0 {k c : Nat} {f : Addr} {fd : FuncData} {ps : List Str} {g : List D → DS → R D} (F : FnOk X.prog X.w X.K X.mg X.base (L2.CX X.prog X.w) k f fd ps (SpI X.K M c 1 g)) (hb : Binds X.K fd ps []) (mk : Mk X.K (M.cls c) f) (hm : X.mg x = some (.ref (M.cls c))) (hr : Room (k + 1) X.A) (tk : Takes X W) (hW : Flat W)
    (hg : Gl X x := by rfl) (hdb : (x == ("__debug__" : Str)) = false := by decide) :
    DF M X W (.Call (.Name x p) [] [] pos) (callD (gateD 0 g) nilA) := by
  refine ⟨_, pe_make0 (E := WU W) mk F hr hg hm hb (dvs := []) Paired.nil (passes_call tk fun c d σ H ⟨σ', z⟩ => hW c d σ' σ H z) hdb, fun A σ H G hs own η s Q I hp => ?_⟩
  intro x dx hx hdx hne
  refine ⟨G, hs, s, [], x, dx, H, [], rfl, hx, hdx, hne, rfl, I.sim, repL_nil.mpr rfl, rfl, ?_⟩
  have hp2 : RPost X.K M σ W G hs H (g [] s) (fun d G' hs' _ H' => ∀ p, Nt H p → Fr1 X.K M G' hs' H' d p → Q (.ref p) H') := hp
  exact (hp2.sig (E := WU W) (fun _ _ _ z => ⟨σ, z⟩)).mono fun d G2 hs2 s2 H2 S2 J2 h2 fr => ⟨rfl, h2 x (nt_none hx) fr⟩
def fullD (M : Mp) : D → Bool
  | .obj c ds => ds.length == (M.flds c).length
  | _ => true
def calmO (M : Mp) (f : Env → DS → R D) : Env → DS → R D := fun η s => (f η s).bind fun d s1 => if fullD M d = true then .ok d s1 else .bad
theorem DF.deO {e : Expr} {f : Env → DS → R D} (h : DF M X W e f) : DE M X W e (calmO M f) := by
  obtain ⟨t, p, h⟩ := h.ex
  refine ⟨t, p, fun A σ H G hs own η s Q I hp => h A σ H G hs own η s Q I ?_⟩
  unfold calmO at hp
  cases q : f η s with
  | ok d s1 =>
    rw [q] at hp
    have hp2 : RPost X.K M σ W G hs H (if fullD M d = true then R.ok d s1 else .bad) (fun d G' hs' _ H' => ∀ v, Rep X.K M G' hs' d v → Q v H') := hp
    intro G1 hs1 H1 S1 J1 p hp0 fr
    by_cases hn : fullD M d = true
    · rw [if_pos hn] at hp2
      obtain ⟨o, ho, hr⟩ := at_rep fr.g fr.at_ (fun c ds e => by subst e; simpa [fullD] using hn)
      exact hp2 _ hs1 H1 (S1.still hp0 fr.g) (J1.still ho fr.h fr.t fr.g (at_no fr.at_ ho)) _ hr
    · rw [if_neg hn] at hp2
      exact hp2.elim
  | ex c p s1 => rw [q] at hp; exact hp
  | bad => rw [q] at hp; exact hp
end
end DL
set_option Elab.async false
set_option linter.all false
set_option maxRecDepth 100000
set_option maxHeartbeats 2000000
namespace DL
open PySem PySem.Spec PyProof.Rows L2

/-- the answers, clause by clause -/
def ToldW (K : PySem.W.Frag) (M : Mp) (Q : VK) : List (Nat × Str) → XK
  | [] => fun _ _ _ => False
  | (c, r) :: l => fun cls d H => ∃ b, PySem.W.exmOne K cls (.ref (M.exc c)) = some b ∧ (b = true → Q (.str r) H) ∧ (b = false → ToldW K M Q l cls d H)
inductive HdT (sg : Scope) (mg : Str → Option Value) (M : Mp) : List ExceptHandler → List (Nat × Str) → Prop
  | nil : HdT sg mg M [] []
  | cons {e ret : Str} {c j : Nat} {p4 p5 p6 p7 : Pos} {hds : List ExceptHandler} {l : List (Nat × Str)} (h1 : sg.names.lookup e = some .globalImplicit) (h2 : mg e = some (.ref (M.exc c))) (h3 : (e == ("__debug__" : Str)) = false) (r : HdT sg mg M hds l) :
      HdT sg mg M (.ExceptHandler (some (.Name e p4)) none [.Return (some (.Constant (.str ret) j p5)) p6] p7 :: hds) ((c, ret) :: l)
def hdl (M : Mp) : List (Nat × Str) → List (Value × (Addr → Value → Option Addr → TS))
  | [] => []
  | (c, r) :: l => (.ref (M.exc c), fun _ _ _ D _ H => D.rt (.str r) H) :: hdl M l
section
variable {M : Mp} {X : Cx} {W : WX}
theorem hdsOk {sg : Scope} (hsc : X.env.scope = sg) : ∀ {hds : List ExceptHandler} {l : List (Nat × Str)}, HdT sg X.mg M hds l → HdsOk X hds (hdl M l)
  | _, _, .nil => .nil
  | _, _, .cons h1 h2 h3 r => .cons ⟨by subst hsc; exact h1, h3, .inl h2⟩ (fun a oe cls d pn _ _ => pss_one (ps_ret pe_str)) (hdsOk hsc r)
theorem many_of {K : PySem.W.Frag} {D : Ends} {cls : Value} {d : Option Addr} {σ : L2.St} {H : Hp} : ∀ {l : List (Nat × Str)}, ToldW K M D.rt l cls d H → wMany K (fun _ _ _ _ => False) D (hdl M l) cls d σ H
  | [], h => h
  | (c, r) :: l, ⟨b, h1, h2, h3⟩ => ⟨b, h1, fun hb a _ => h2 hb, fun hb => many_of (h3 hb)⟩
theorem told_many {Ng : List Str} {x a q : Str} {sg : Scope} {g : Addr} {cdg : Value} {p1 p2 p3 p8 : Pos} {h₀ : ExceptHandler} {hds : List ExceptHandler} {l : List (Nat × Str)} (hh : HdT sg X.mg M (h₀ :: hds) l) (h0 : ∀ f : Addr, (L2.start Ng [V.ref f])[0]? = some (some (V.ref f))) :
    LamX.GivesTo X Ng x sg g cdg [.Try [.Return (some (.Call (.Name a p1) [] [] p2)) p3] (h₀ :: hds) [] [] p8] a q (fun tl H Q => tl (ToldW X.K M Q l) H Q) := by
  intro f c' s H Q tl act hc h
  refine ⟨_, pss_one (ps_try_many (X := (cxOf C8.CX0 X.prog X.w X.K X.mg X.base Ng x sg g cdg X.A X.stack s H C8.E0).nox) (Wout := fun _ _ _ _ => False) (l := hdl M l)
      (tb := fun W D σ H => ∃ Ech : XK, (∀ cls d σ' H', Ech cls d H' → W cls d σ' H') ∧ σ[0]? = some (some (.ref f)) ∧ H c' = some (LamX.CodeO c' q) ∧ tl Ech H D.rt)
      rfl rfl LamX.takes0 (fun W pn xe tk _ => ?_) (hdsOk (sg := sg) rfl hh)), ?_⟩
  · refine ⟨fun pins s' σ H' D I h' => ?_⟩
    obtain ⟨Ech, hW, h1, h2, h3⟩ := h'
    exact (pss_one (ps_ret (pos := p3) (act W pn xe Ech p1 p2 tk hW))).run pins s' σ H' D I ⟨h1, h2, h3⟩
  · exact ⟨ToldW X.K M Q l, fun cls d σ' H' z => many_of z, h0 f, hc, h⟩
def toldD (l : List (Nat × Str)) (fb : Env → DS → R D) : Env → DS → R D := fun η s => match fb η s with
  | .ok d s1 => .ok d s1
  | .ex c _ s1 => (match l.lookup c with
    | some r => .ok (.str r) s1
    | none => .bad)
  | .bad => .bad
theorem toldW_of {K : PySem.W.Frag} {Q : VK} {c : Nat} {r : Str} {dx : Option Addr} {H : Hp} (hQ : Q (.str r) H) : ∀ {l : List (Nat × Str)}, (∀ p ∈ l, PySem.W.exmOne K (.ref (M.exc c)) (.ref (M.exc p.1)) = some (c == p.1)) → l.lookup c = some r → ToldW K M Q l (.ref (M.exc c)) dx H
  | [], _, e => by simp at e
  | (c', r') :: l, hx, e => by
    refine ⟨c == c', hx (c', r') List.mem_cons_self, fun hb => ?_, fun hb => ?_⟩
    · rw [List.lookup_cons, hb] at e
      cases e
      exact hQ
    · rw [List.lookup_cons, hb] at e
      exact toldW_of hQ (fun p hp => hx p (List.mem_cons_of_mem _ hp)) e
theorem extN_step {K : PySem.W.Frag} {G H H1 : Hp} {hs : List Addr} {s : DS} (J : Sim K M G hs s H) (e : LamX.ExtN H H1) (t : LamX.Tabs M.tabs H1) : Stp M G hs H G hs H1 ∧ Sim K M G hs s H1 := by
  refine ⟨⟨fun _ _ h => h, fun _ _ h => .inl h, Pre.refl _, fun _ h => .inl h, fun a o h _ n => e a o h n, fun a h o q => ?_⟩, ⟨fun a o h => e a o (J.sub a o h) (J.tG a o h), J.len, J.nd, J.hG, fun k a d e1 e2 => ?_, t, J.tG⟩⟩
  · cases o with
    | tbl ps => exact ⟨ps, rfl⟩
    | _ => exact h _ (e a _ q fun ps z => by cases z)
  · refine (J.han k a d e1 e2).mono (fun _ _ z => z) (Pre.refl _) ?_
    obtain ⟨o, h1, n⟩ := (J.han k a d e1 e2).some
    rw [h1, e a o h1 n]
theorem RPost.toldK {K : PySem.W.Frag} {σ : L2.St} {G H : Hp} {hs : List Addr} {s : DS} {η : Env} {Q : VK} {l : List (Nat × Str)} {fb : Env → DS → R D} (hx : ∀ p ∈ l, ∀ q ∈ l, PySem.W.exmOne K (.ref (M.exc p.1)) (.ref (M.exc q.1)) = some (p.1 == q.1))
    (h : RPost K M σ W G hs H (toldD l fb η s) (fun d G' hs' _ H' => ∀ v, Rep K M G' hs' d v → Q v H')) : RPost K M σ (WofE (ToldW K M Q l)) G hs H (fb η s) (fun d G' hs' _ H' => ∀ v, Rep K M G' hs' d v → Q v H') := by
  unfold toldD at h
  cases e : fb η s with
  | ok d s1 => rw [e] at h; exact h
  | bad => rw [e] at h; exact h
  | ex c p s1 =>
    rw [e] at h
    dsimp only at h
    split at h
    · rename_i r hr
      intro G' hs' H' cls dx S J x
      obtain ⟨rfl, _⟩ := x
      have hm : (c, r) ∈ l := by
        clear h hx
        induction l with
        | nil => cases hr
        | cons p l ih =>
          obtain ⟨c', r'⟩ := p
          rw [List.lookup_cons] at hr
          split at hr
          · rename_i hc
            cases hr
            have : c = c' := by simpa using hc
            rw [this]
            exact List.mem_cons_self
          · exact List.mem_cons_of_mem _ (ih hr)
      exact toldW_of (h G' hs' H' S J _ (rep_str.mpr rfl)) (fun p hp => hx _ hm p hp) hr
    · exact h.elim
theorem lam_body {k : Nat} {scope : Scope} {body : Expr} {fb : Env → DS → R D} (h : ∀ (A : Around) (outer : List PySem.Env) (s : Shared) (H : Hp) (E : XK) (f c' : Addr), Room k (A.deeper (LamX.lamEnv X scope s.heap.objs.size f c')) → DE M (LamX.lamCx X A outer s H E scope f c') (WofE E) body fb) :
    ∃ t : XK → TE, (∀ (A : Around) (outer : List PySem.Env) (s : Shared) (H : Hp) (E : XK) (f c' : Addr), Room k (A.deeper (LamX.lamEnv X scope s.heap.objs.size f c')) → PE (LamX.lamCx X A outer s H E scope f c') body (t E)) ∧ ∀ E, EEx M X (WofE E) (t E) fb := by
  refine ⟨fun E σ H Q => ∀ A outer s H0 f c' hr, Classical.choose (h A outer s H0 E f c' hr).ex σ H Q, fun A outer s H0 E f c' hr => ⟨fun pins s1 σ H Q I hw => (Classical.choose_spec (h A outer s H0 E f c' hr).ex).1.run pins s1 σ H Q I (hw A outer s H0 f c' hr)⟩, ?_⟩
  intro E A σ H G hs own η s Q I r A2 outer s0 H0 f c' hr
  exact (Classical.choose_spec (h A2 outer s0 H0 E f c' hr).ex).2 A σ H G hs own η s Q I r
theorem de_told {x a : Str} {g c P : Addr} {k : Nat} {st : Stmt} {fd : FuncData} {Ng : List Str} {params : Arguments} {body : Expr} {scope : Scope} {p lpos pos p1 p2 p3 p8 : Pos} {h₀ : ExceptHandler} {hds : List ExceptHandler} {l : List (Nat × Str)} {fb : Env → DS → R D}
    (Fu : Fun X.K x x st g fd) (hb : L2.Binds X.K fd [a] []) (Sg : FnScope Ng [a] (defScope st)) (hbd : defBody st = [.Try [.Return (some (.Call (.Name a p1) [] [] p2)) p3] (h₀ :: hds) [] [] p8])
    (hh : HdT (defScope st) X.mg M (h₀ :: hds) l) (hx : ∀ p ∈ l, ∀ q ∈ l, PySem.W.exmOne X.K (.ref (M.exc p.1)) (.ref (M.exc q.1)) = some (p.1 == q.1)) (hNg : Ng[0]? = some a) (hva : Vis (defScope st) a)
    (TB : LamX.TabB X.base X.mg c P) (hcode : X.env.code = .ref c) (hmT : (P, X.env.qual ++ "<lambda>") ∈ M.tabs) (hu : ∀ p ∈ M.tabs, p.1 = P → p.2 = X.env.qual ++ "<lambda>") (hr : Room (k + 2) X.A) (hm : X.mg x = some (.ref g))
    (hbody : ∀ (A : Around) (outer : List PySem.Env) (s : Shared) (H : Hp) (E : XK) (f c' : Addr), Room k (A.deeper (LamX.lamEnv X scope s.heap.objs.size f c')) → DE M (LamX.lamCx X A outer s H E scope f c') (WofE E) body fb)
    (hg : Gl X x := by rfl) (L : LamX.LamS X.env.scope scope := by exact LamX.lamS_by (by decide +kernel)) (hdef : defaultsOf params X.env = ([], []) := by rfl)
    (hbind : ∀ (q : Str) (cl : List (Str × Addr)) (pm cv ctv : Value), bindArgs (PySem.W.kla_fn "<lambda>" q params body scope cl pm cv ctv) ⟨[], []⟩ = pure [] := by intros; rfl)
    (hdb : (x == ("__debug__" : Str)) = false := by decide) (hd : (a == ("__debug__" : Str)) = false := by decide) (hcd : (a == ("__classdict__" : Str)) = false := by decide) :
    DE M X W (.Call (.Name x p) [.Lambda params body scope lpos] [] pos) (toldD l fb) := by
  obtain ⟨t, pt, kt⟩ := lam_body hbody
  obtain ⟨⟨oc, od, kV, doc, pm, an, cdv, ct, osl, rfl, lk, hcd2⟩, kp⟩ := Fu
  refine ⟨_, LamX.pe_lamcall (T := M.tabs) (TT := fun tl H Q => tl (ToldW X.K M Q l) H Q) (t := t) hg hm kp lk hcd2 hb Sg hNg hva (hbd ▸ told_many hh fun f => start_get rfl) TB hcode hmT hu hr L hdef hbind pt hdb hd hcd, fun A σ H G hs own η s Q I hp => ?_⟩
  · refine ⟨I.sim.tab, fun H1 eN T1 => ?_⟩
    obtain ⟨S1, J1⟩ := extN_step I.sim eN T1
    refine kt _ A σ H1 G hs own η s _ (I.step S1 J1) ?_
    have q := (RPost.step S1 hp).toldK hx
    cases e : fb η s with
    | ok d s1 => rw [e] at q; exact q
    | bad => rw [e] at q; exact q
    | ex c p s1 => rw [e] at q; exact q
end
end DL
set_option Elab.async false
set_option linter.all false
set_option maxRecDepth 100000
set_option maxHeartbeats 2000000
namespace DL
open PySem PySem.Spec PyProof.Rows L2

/-! ### several values, some of them new things -/
def FrL (K : PySem.W.Frag) (M : Mp) (G : Hp) (hs : List Addr) (H0 H : Hp) : List Sl → List V → List Addr → Prop
  | [], vs, ps => vs = [] ∧ ps = []
  | .v d :: r, vs, ps => ∃ v vr, vs = v :: vr ∧ Rep K M G hs d v ∧ FrL K M G hs H0 H r vr ps
  | .o d :: r, vs, ps => ∃ p vr pr, vs = .ref p :: vr ∧ ps = p :: pr ∧ Fr1 K M G hs H d p ∧ Nt H0 p ∧ p ∉ pr ∧ FrL K M G hs H0 H r vr pr
  | .no :: _, _, _ => False
section
variable {M : Mp} {X : Cx} {W : WX} {K : PySem.W.Frag} {G G' H H' H0 H1 : Hp} {hs hs' : List Addr}
theorem Fr1.step {d : D} {p : Addr} (h : Fr1 K M G hs H d p) (S : Stp M G hs H G' hs' H') : Fr1 K M G' hs' H' d p := by
  obtain ⟨o, e, no⟩ := h.at_.some
  obtain ⟨a1, a2⟩ := S.away e h.h h.g no
  exact ⟨S.keepAt h.at_ h.h h.t, a1, a2, h.t⟩
theorem FrL.step (S : Stp M G hs H G' hs' H') : ∀ {ds : List Sl} {vs : List V} {ps : List Addr}, FrL K M G hs H0 H ds vs ps → FrL K M G' hs' H0 H' ds vs ps
  | [], _, _, h => h
  | .v d :: r, _, _, ⟨v, vr, h1, h2, h3⟩ => ⟨v, vr, h1, h2.mono S.gg S.hp, FrL.step S h3⟩
  | .o d :: r, _, _, ⟨p, vr, pr, h1, h2, h3, h4, h5, h6⟩ => ⟨p, vr, pr, h1, h2, h3.step S, h4, h5, FrL.step S h6⟩
  | .no :: _, _, _, h => h.elim
theorem FrL.base (dm : ∀ a, Nt H1 a → Nt H0 a) : ∀ {ds : List Sl} {vs : List V} {ps : List Addr}, FrL K M G hs H1 H ds vs ps → FrL K M G hs H0 H ds vs ps
  | [], _, _, h => h
  | .v d :: r, _, _, ⟨v, vr, h1, h2, h3⟩ => ⟨v, vr, h1, h2, FrL.base dm h3⟩
  | .o d :: r, _, _, ⟨p, vr, pr, h1, h2, h3, h4, h5, h6⟩ => ⟨p, vr, pr, h1, h2, h3, dm _ h4, h5, FrL.base dm h6⟩
  | .no :: _, _, _, h => h.elim
theorem FrL.nt : ∀ {ds : List Sl} {vs : List V} {ps : List Addr}, FrL K M G hs H0 H ds vs ps → ∀ p ∈ ps, Nt H0 p
  | [], _, _, ⟨_, e⟩, p, hp => by rw [e] at hp; cases hp
  | .v d :: r, _, _, ⟨v, vr, h1, h2, h3⟩, p, hp => h3.nt p hp
  | .o d :: r, _, _, ⟨q, vr, pr, h1, h2, h3, h4, h5, h6⟩, p, hp => by
    rw [h2] at hp
    rcases List.mem_cons.mp hp with rfl | hp
    · exact h4
    · exact h6.nt p hp
  | .no :: _, _, _, h, _, _ => h.elim
theorem FrL.length : ∀ {ds : List Sl} {vs : List V} {ps : List Addr}, FrL K M G hs H0 H ds vs ps → vs.length = ds.length
  | [], _, _, ⟨e, _⟩ => by rw [e] <;> rfl
  | .v d :: r, _, _, ⟨v, vr, h1, h2, h3⟩ => by rw [h1, List.length_cons, List.length_cons, h3.length]
  | .o d :: r, _, _, ⟨q, vr, pr, h1, h2, h3, h4, h5, h6⟩ => by rw [h1, List.length_cons, List.length_cons, h6.length]
  | .no :: _, _, _, h => h.elim
structure DAF (M : Mp) (X : Cx) (W : WX) (es : List Expr) (f : Env → DS → R (List Sl)) : Prop where
  ex : ∃ t, PA X es t ∧ ∀ (A : Anc) (σ : L2.St) (H G : Hp) (hs : List Addr) (own : Nat → Addr) (η : Env) (s : DS) (Q : List V → Hp → Prop), Sm X.K M A σ H G hs own η s →
    RPost X.K M σ W G hs H (f η s) (fun ds G' hs' _ H' => ∀ vs ps, FrL X.K M G' hs' H H' ds vs ps → Q vs H') → t σ H Q
def nilF : Env → DS → R (List Sl) := fun _ s => .ok [] s
def consV (f : Env → DS → R D) (g : Env → DS → R (List Sl)) : Env → DS → R (List Sl) := fun η s => (f η s).bind fun d s1 => (g η s1).bind fun ds s2 => .ok (.v d :: ds) s2
def consO (f : Env → DS → R D) (g : Env → DS → R (List Sl)) : Env → DS → R (List Sl) := fun η s => (f η s).bind fun d s1 => (g η s1).bind fun ds s2 => .ok (.o d :: ds) s2
variable {e : Expr} {es : List Expr} {f : Env → DS → R D} {g : Env → DS → R (List Sl)}
theorem daf_nil : DAF M X W [] nilF := ⟨_, pa_nil, fun A σ H G hs own η s Q I r => r G hs H (Stp.refl _ _ _ _) I.sim _ _ ⟨rfl, rfl⟩⟩
theorem daf_v (ha : DE M X W e f) (hr : DAF M X W es g) (hs : starEach (e :: es) X.env = (false, eval e X.env) :: starEach es X.env := by rfl) : DAF M X W (e :: es) (consV f g) := by
  obtain ⟨t, p, h⟩ := ha.ex
  obtain ⟨u, q, k⟩ := hr.ex
  refine ⟨_, pa_cons p q hs, fun A σ H G hs own η s Q I hp => ?_⟩
  refine h A σ H G hs own η s _ I (hp.bind.mono fun x G1 hs1 s1 H1 S1 J1 h1 v hv => ?_)
  refine k A σ H1 G1 hs1 own η s1 _ (I.step S1 J1) (h1.bind.mono fun xs G2 hs2 s2 H2 S2 J2 h2 vs ps hvs => ?_)
  exact h2 G2 hs2 H2 (Stp.refl _ _ _ _) J2 _ ps ⟨v, vs, rfl, hv.mono S2.gg S2.hp, hvs.base S1.dm⟩
theorem daf_o (ha : DF M X W e f) (hr : DAF M X W es g) (hs : starEach (e :: es) X.env = (false, eval e X.env) :: starEach es X.env := by rfl) : DAF M X W (e :: es) (consO f g) := by
  obtain ⟨t, p, h⟩ := ha.ex
  obtain ⟨u, q, k⟩ := hr.ex
  refine ⟨_, pa_cons p q hs, fun A σ H G hs own η s Q I hp => ?_⟩
  refine h A σ H G hs own η s _ I (hp.bind.mono fun x G1 hs1 s1 H1 S1 J1 h1 p hp0 fr => ?_)
  refine k A σ H1 G1 hs1 own η s1 _ (I.step S1 J1) (h1.bind.mono fun xs G2 hs2 s2 H2 S2 J2 h2 vs ps hvs => ?_)
  refine h2 G2 hs2 H2 (Stp.refl _ _ _ _) J2 _ (p :: ps) ⟨p, vs, ps, rfl, rfl, fr.step S2, hp0, fun z => ?_, hvs.base S1.dm⟩
  obtain ⟨o, eo, no⟩ := fr.at_.some
  exact (hvs.nt p z).no eo no

/-! ### put into names -/
def setAll : List Nat → List V → L2.St → L2.St
  | i :: is, v :: vs, σ => setAll is vs (σ.set i (some v))
  | _, _, σ => σ
def putS : List Nat → List Sl → Env → Option Env
  | [], [], η => some η
  | i :: is, .v d :: ds, η => if i < η.length then putS is ds (η.set i (.v d)) else none
  | i :: is, .o d :: ds, η => if 0 < i ∧ i < η.length then putS is ds (η.set i (.o d)) else none
  | _, _, _ => none
theorem putS_len : ∀ {is : List Nat} {ds : List Sl} {η η' : Env}, putS is ds η = some η' → is.length = ds.length
  | [], [], _, _, _ => rfl
  | i :: is, .v d :: ds, η, η', h => by
    rw [putS] at h
    split at h
    · rw [List.length_cons, List.length_cons, putS_len h]
    · cases h
  | i :: is, .o d :: ds, η, η', h => by
    rw [putS] at h
    split at h
    · rw [List.length_cons, List.length_cons, putS_len h]
    · cases h
  | [], .v _ :: _, _, _, h => by simp [putS] at h
  | [], .o _ :: _, _, _, h => by simp [putS] at h
  | [], .no :: _, _, _, h => by simp [putS] at h
  | _ :: _, [], _, _, h => by simp [putS] at h
  | _ :: _, .no :: _, _, _, h => by simp [putS] at h
theorem Sm.putS {A : Anc} {s : DS} : ∀ {is : List Nat} {ds : List Sl} {vs : List V} {ps : List Addr} {η η' : Env} {σ : L2.St} {own : Nat → Addr}, Sm K M A σ H G hs own η s → FrL K M G hs H0 H ds vs ps → (∀ p ∈ ps, Nt A.H p) → (∀ j e, η[j]? = some (.o e) → own j ∉ ps) → putS is ds η = some η' → ∃ own', Sm K M A (setAll is vs σ) H G hs own' η' s
  | [], [], _, _, η, η', σ, own, I, ⟨e1, e2⟩, _, _, h => by
    rw [DL.putS] at h
    cases h
    exact ⟨own, I⟩
  | i :: is, .v d :: ds, _, ps, η, η', σ, own, I, ⟨v, vr, rfl, h2, h3⟩, hn, ha, h => by
    rw [DL.putS] at h
    split at h
    · rename_i hl
      have I1 := I.set (i := i) (by rw [← I.el]; exact hl) h2
      have ha1 : ∀ j e, (η.set i (.v d))[j]? = some (Sl.o e) → own j ∉ ps := fun j e ej => by
        rcases set_get ej with ⟨_, q⟩ | ⟨_, q⟩
        · cases q
        · exact ha j e q
      have r := Sm.putS (is := is) I1 h3 hn ha1 h
      exact r
    · cases h
  | i :: is, .o d :: ds, _, _, η, η', σ, own, I, ⟨p, vr, pr, rfl, rfl, h3, h4, h5, h6⟩, hn, ha, h => by
    rw [DL.putS] at h
    split at h
    · rename_i hl
      have I1 := I.setO (i := i) hl.1 (by rw [← I.el]; exact hl.2) h3 (hn p List.mem_cons_self) fun j e _ ej z => ha j e ej (by rw [z]; exact List.mem_cons_self)
      have ha1 : ∀ j e, (η.set i (.o d))[j]? = some (Sl.o e) → (if j = i then p else own j) ∉ pr := fun j e ej => by
        rcases set_get ej with ⟨hj, q⟩ | ⟨hj, q⟩
        · rw [if_pos hj]; exact h5
        · rw [if_neg hj]
          exact fun z => ha j e q (List.mem_cons_of_mem _ z)
      have r := Sm.putS (is := is) I1 h6 (fun q hq => hn q (List.mem_cons_of_mem _ hq)) ha1 h
      exact r
    · cases h
  | [], .v _ :: _, _, _, _, _, _, _, _, _, _, _, h => by simp [DL.putS] at h
  | [], .o _ :: _, _, _, _, _, _, _, _, _, _, _, h => by simp [DL.putS] at h
  | _, .no :: _, _, _, _, _, _, _, _, h, _, _, _ => h.elim
  | _ :: _, [], _, _, _, _, _, _, _, _, _, _, h => by simp [DL.putS] at h
structure DN (X : Cx) (tgs : List Expr) (is : List Nat) : Prop where
  ex : ∃ g, PGs X tgs g ∧ ∀ (vs : List V) (σ : L2.St) (H : Hp) (Q : L2.St → Hp → Prop), vs.length = is.length → Q (setAll is vs σ) H → g vs σ H Q
theorem dn_nil : DN X [] [] := ⟨_, pgs_nil, fun vs σ H Q hl q => by
  cases vs with
  | nil => exact ⟨rfl, q⟩
  | cons _ _ => simp at hl⟩
theorem dn_cons (i : Nat) {x : Str} {pos : Pos} {tgs : List Expr} {is : List Nat} (hN : X.N.Nodup) (h : DN X tgs is) (hi : X.N[i]? = some x := by rfl) (hx : Loc X.env.scope x := by first | exact Or.inl rfl | exact Or.inr rfl)
    (hf : X.fn x = true ∨ X.env.scope.names.lookup x = some .local := by first | exact .inl rfl | exact .inr rfl) (hs : (assignEach (.Name x pos :: tgs) X.env).map (·.2) = assign (.Name x pos) X.env :: (assignEach tgs X.env).map (·.2) := by rfl) : DN X (.Name x pos :: tgs) (i :: is) := by
  obtain ⟨g, p, k⟩ := h.ex
  refine ⟨_, pgs_cons (pg_name hN hi hx hf) p hs, fun vs σ H Q hl q => ?_⟩
  cases vs with
  | nil => simp at hl
  | cons v r => exact ⟨v, r, rfl, k r _ H Q (by simpa using hl) q⟩
def asgFB (is : List Nat) (fa : Env → DS → R (List Sl)) : Env → DS → F := fun η s => (fa η s).toF η fun sl s1 => match putS is sl η with
  | some η' => .nx η' s1
  | none => .bad
theorem asgF_run {A : Anc} {σ : L2.St} {own : Nat → Addr} {η : Env} {s s1 : DS} {E : Ends} {is : List Nat} {ds : List Sl} {vs : List V} {ps : List Addr} (I : Sm X.K M A σ H0 G hs own η s) (S : Stp M G hs H0 G' hs' H') (J : Sim X.K M G' hs' s1 H') (hv : FrL X.K M G' hs' H0 H' ds vs ps)
    (hp : FPost X.K M A W E (match putS is ds η with | some η' => .nx η' s1 | none => .bad)) : vs.length = is.length ∧ E.nx (setAll is vs σ) H' := by
  split at hp
  · rename_i η' e
    refine ⟨by rw [hv.length, putS_len e], ?_⟩
    obtain ⟨own', I'⟩ := (I.step S J).putS hv (fun p h => I.stp.dm p (hv.nt p h)) (fun j e ej z => I.apart (hv.nt _ z) j e ej rfl) e
    exact hp _ H' G' hs' own' I'
  · exact hp.elim
theorem ds_asgF {tgs es : List Expr} {kt k2 : Nat} {pt pt2 pos : Pos} {is : List Nat} {fa : Env → DS → R (List Sl)} (hc : X.calm = true) (ha : DAF M X W es fa) (ht : DN X tgs is) (hsm : is.length ≤ 1000 := by decide) (hn : (assignEach tgs X.env).length = is.length := by rfl) (hst : (assignEach tgs X.env).findIdx? (·.1) = none := by rfl)
    (hs : swapsWithSole [.Tuple tgs kt pt] (.Tuple es k2 pt2) pos.line X.env = pure false := by rfl) (hw : swappedStores [.Tuple tgs kt pt] (.Tuple es k2 pt2) X.env = pure none := by rfl)
    (h1 : (assignEach [.Tuple tgs kt pt] X.env).map (·.2) = [assign (.Tuple tgs kt pt) X.env] := by rfl) : DSt M X W (.Assign [.Tuple tgs kt pt] (.Tuple es k2 pt2) pos) (asgFB is fa) := by
  obtain ⟨t, p, h⟩ := ha.ex
  obtain ⟨g, pg, kg⟩ := ht.ex
  refine ⟨_, ps_asg (pe_tup p) (pg_tup hc pg hn hst) hs hw h1, fun A σ H G hs own η s E I hp => ?_⟩
  refine h A σ H G hs own η s _ I ((hp.lift I).mono fun ds G1 hs1 s1 H1 S1 J1 h1 vs ps hvs => ?_)
  have hl := (asgF_run I S1 J1 hvs h1).1
  refine ⟨by rw [line_, hl]; omega, fun q hq => ?_⟩
  obtain ⟨S2, J2⟩ := J1.laid (o := .tup vs) hq
  refine ⟨q, vs, rfl, SqT.of upd_same, hl, kg vs σ _ _ hl ?_⟩
  exact (asgF_run I (S1.trans S2) J2 (hvs.step S2) h1).2
theorem ds_par2F (i j : Nat) {x y : Str} {a b : Expr} {fa : Env → DS → R (List Sl)} {px py pt pt2 pos : Pos} {kt k2 : Nat} (hc : X.calm = true) (hN : X.N.Nodup) (ha : DAF M X W [a, b] fa) (hi : X.N[i]? = some x := by rfl) (hj : X.N[j]? = some y := by rfl) (hij : i ≠ j := by decide)
    (hx : X.env.scope.names.lookup x = some .local := by rfl) (hy : X.env.scope.names.lookup y = some .local := by rfl)
    (hw : swappedStores [.Tuple [.Name x px, .Name y py] kt pt] (.Tuple [a, b] k2 pt2) X.env = pure (some [x, y]) := by rfl)
    (hs : swapsWithSole [.Tuple [.Name x px, .Name y py] kt pt] (.Tuple [a, b] k2 pt2) pos.line X.env = pure false := by rfl) :
    DSt M X W (.Assign [.Tuple [.Name x px, .Name y py] kt pt] (.Tuple [a, b] k2 pt2) pos) (asgFB [i, j] fa) := by
  obtain ⟨t, p, h⟩ := ha.ex
  refine ⟨_, ps_par hc hN hi hj hij hx hy p hw hs, fun A σ H G hs own η s E I hp => ?_⟩
  refine h A σ H G hs own η s _ I ((hp.lift I).mono fun ds G1 hs1 s1 H1 S1 J1 h1 vs ps hvs => ?_)
  obtain ⟨hl, q⟩ := asgF_run I S1 J1 hvs h1
  match vs, hl, q with
  | [v, w], _, q => exact ⟨v, w, rfl, q⟩
theorem ds_par3F (i j l : Nat) {x y z : Str} {a b c : Expr} {fa : Env → DS → R (List Sl)} {px py pz pt pt2 pos : Pos} {kt k2 : Nat} (hc : X.calm = true) (hN : X.N.Nodup) (ha : DAF M X W [a, b, c] fa) (hi : X.N[i]? = some x := by rfl) (hj : X.N[j]? = some y := by rfl) (hl : X.N[l]? = some z := by rfl) (hij : i ≠ j := by decide) (hil : i ≠ l := by decide) (hjl : j ≠ l := by decide)
    (hx : X.env.scope.names.lookup x = some .local := by rfl) (hy : X.env.scope.names.lookup y = some .local := by rfl) (hz : X.env.scope.names.lookup z = some .local := by rfl)
    (hw : swappedStores [.Tuple [.Name x px, .Name y py, .Name z pz] kt pt] (.Tuple [a, b, c] k2 pt2) X.env = pure (some [x, y, z]) := by rfl)
    (hs : swapsWithSole [.Tuple [.Name x px, .Name y py, .Name z pz] kt pt] (.Tuple [a, b, c] k2 pt2) pos.line X.env = pure false := by rfl) :
    DSt M X W (.Assign [.Tuple [.Name x px, .Name y py, .Name z pz] kt pt] (.Tuple [a, b, c] k2 pt2) pos) (asgFB [i, j, l] fa) := by
  obtain ⟨t, p, h⟩ := ha.ex
  refine ⟨_, ps_par3 hc hN hi hj hl hij hil hjl hx hy hz p hw hs, fun A σ H G hs own η s E I hp => ?_⟩
  refine h A σ H G hs own η s _ I ((hp.lift I).mono fun ds G1 hs1 s1 H1 S1 J1 h1 vs ps hvs => ?_)
  obtain ⟨hl, q⟩ := asgF_run I S1 J1 hvs h1
  match vs, hl, q with
  | [u, v, w], _, q => exact ⟨u, v, w, rfl, q⟩
/-- t1 = t2 = e -/
def asg2B (f1 f2 : D → Env → Option Env) (fe : Env → DS → R D) : Env → DS → F := fun η s => (fe η s).toF η fun d s1 => match (f1 d η).bind (f2 d) with
  | some η' => .nx η' s1
  | none => .bad
theorem ds_asg2 {t1 t2 e : Expr} {f1 f2 : D → Env → Option Env} {i1 i2 : List Nat} {fe : Env → DS → R D} {pos : Pos} (he : DE M X W e fe) (h1 : DG M X t1 f1 i1) (h2 : DG M X t2 f2 i2) (ha : (assignEach [t1, t2] X.env).map (·.2) = [assign t1 X.env, assign t2 X.env] := by rfl) (hw : swappedStores [t1, t2] e X.env = pure none := by rfl) :
    DSt M X W (.Assign [t1, t2] e pos) (asg2B f1 f2 fe) := by
  obtain ⟨t, p, h⟩ := he.ex
  obtain ⟨g1, p1, k1⟩ := h1.ex
  obtain ⟨g2, p2, k2⟩ := h2.ex
  refine ⟨_, ps_asg2 p p1 p2 ha hw, fun A σ H G hs own η s E I hp => ?_⟩
  refine h A σ H G hs own η s _ I ((hp.lift I).mono fun d G1 hs1 s1 H1 S1 J1 q v hv => ?_)
  split at q
  · rename_i η' e
    rw [Option.bind_eq_some_iff] at e
    obtain ⟨η1, e1, e2⟩ := e
    exact k1 A σ H1 G1 hs1 own η η1 s1 d v _ (I.step S1 J1) hv e1 fun σ1 I1 _ => k2 A σ1 H1 G1 hs1 own η1 η' s1 d v _ I1 hv e2 fun σ2 I2 _ => q σ2 H1 G1 hs1 own I2
  · exact q.elim

/-! ### while, as often as it takes -/
open Classical in
noncomputable def whN (c : Env → DS → R Bool) (body : Env → DS → F) (η : Env) (s : DS) : Nat := if h : ∃ n, whF c body n η s ≠ .bad then Classical.choose h else 0
theorem whF_mono {c : Env → DS → R Bool} {body : Env → DS → F} : ∀ {n : Nat} {η : Env} {s : DS} (m : Nat), whF c body n η s ≠ .bad → whF c body (n + m) η s = whF c body n η s
  | 0, _, _, _, h => absurd rfl h
  | n + 1, η, s, m, h => by
    have e : n + 1 + m = (n + m) + 1 := by omega
    rw [e, whF, whF] at *
    cases q : c η s with
    | ok b s1 =>
      rw [q] at h
      simp only [R.toF] at h ⊢
      split
      · rename_i hb
        rw [if_pos hb] at h
        cases r : body η s1 with
        | nx η2 s2 => rw [r] at h; exact whF_mono m h
        | ct η2 s2 => rw [r] at h; exact whF_mono m h
        | _ => rfl
      · rfl
    | ex c p s1 => rfl
    | bad => rfl
theorem whB_eq {c : Env → DS → R Bool} {body : Env → DS → F} {η : Env} {s : DS} {r : F} (n : Nat) (h : whF c body n η s = r) (hr : r ≠ .bad) : whB (whN c body) c body η s = r := by
  have hex : ∃ n, whF c body n η s ≠ .bad := ⟨n, by rw [h]; exact hr⟩
  unfold whB whN
  rw [dif_pos hex]
  have hk := Classical.choose_spec hex
  generalize Classical.choose hex = k at hk
  rw [← whF_mono n hk, Nat.add_comm, whF_mono k (by rw [h]; exact hr), h]
end
end DL
set_option Elab.async false
set_option linter.all false
set_option maxRecDepth 100000
set_option maxHeartbeats 2000000
namespace DL
open PySem PySem.Spec PyProof.Rows L2

section
variable {M : Mp} {X : Cx} {W : WX} {K : PySem.W.Frag} {P : Program} {w : World} {mg : Str → Option Value} {base : Heap}
theorem funOfD {x q : Str} {st : Stmt} {f : Addr} {fd : FuncData} (F : FunD K x q (defArgs st) (defBody st) (defScope st) [] [] f fd) : Fun K x q st f fd := by
  obtain ⟨oc, od, dV, kV, doc, pm, an, cdv, ct, osl, h1, h2, h3, h4, _⟩ := F.ex
  have e : dV = .none := by
    rcases h4 with ⟨_, h⟩ | ⟨h, _⟩
    · exact h
    · exact absurd rfl h
  subst e
  exact ⟨⟨oc, od, kV, doc, pm, an, cdv, ct, osl, h1, h2, h3⟩, F.kp⟩
theorem Fun.okC {x qual : Str} {st : Stmt} {p : He.Defn} {fd : FuncData} {N ps : List Str} {k : Nat} {sp : Sp} (F : Fun K x qual st (He.fAd K p) fd) (S : FnScope N ps (defScope st)) (len : ∀ vs H Q E, sp vs H Q E → vs.length = ps.length)
    (hbody : ∀ (cdv : Value), cdv = .ref (He.cT K p).1 → ∀ (A : Around) (outer : List PySem.Env) (s : Shared) (H : Hp) (vs : List V) (Q : VK) (E : XK), Room k (A.deeper (envOfC qual (defScope st) s.heap.objs.size (He.fAd K p) cdv)) → sp vs H Q E →
      ∃ t, PSs (cxOf (L2.CX P w) P w K mg base N qual (defScope st) (He.fAd K p) cdv A outer s H E) (defBody st) t ∧ t { nx := fun _ H' => Q .non H', rt := Q } (L2.start N vs) H) : FnOk P w K mg base (L2.CX P w) (k + 1) (He.fAd K p) fd ps sp := by
  obtain ⟨oc, od, kV, doc, pm, an, cdv, ct, osl, rfl, lk, hcd⟩ := F.ex
  obtain ⟨c, hc⟩ := He.codeIn_ref hcd
  have e : cdv = .ref (He.cT K p).1 := by
    show cdv = .ref (He.codeOf K p)
    rw [He.codeOf_eq (c := c) lk hc, hc]
  exact fn_of lk hcd S len fun A outer s H vs Q E hr hsp => hbody cdv e A outer s H vs Q E hr hsp
abbrev BodyC (M : Mp) (P : Program) (w : World) (K : PySem.W.Frag) (mg : Str → Option Value) (base : Heap) (k : Nat) (N : List Str) (qual : Str) (st : Stmt) (f : Addr) (cdv : Value) (body : Env → DS → F) : Prop := ∀ (A : Around) (outer : List PySem.Env) (s : Shared) (H : Hp) (E : XK),
  Room k (A.deeper (envOfC qual (defScope st) s.heap.objs.size f cdv)) → DSs M (cxOf (L2.CX P w) P w K mg base N qual (defScope st) f cdv A outer s H E) (WofE E) (defBody st) body
theorem fn_okT {x qual : Str} {st : Stmt} {p : He.Defn} {fd : FuncData} {N ps : List Str} {k : Nat} {body : Env → DS → F} (F : Fun K x qual st (He.fAd K p) fd) (S : FnScope N ps (defScope st)) (hb : ∀ cdv : Value, cdv = .ref (He.cT K p).1 → BodyC M P w K mg base k N qual st (He.fAd K p) cdv body) : FnOk P w K mg base (L2.CX P w) (k + 1) (He.fAd K p) fd ps (SpD K M ps.length (fnD N.length body)) := by
  refine Fun.okC F S (fun vs H Q E ⟨G, hs, s, ds, _, r, hl, _⟩ => by rw [← r.length, hl]) fun cdv hcd A outer s0 H vs Q E hr ⟨G, hs, s, ds, J, r, hl, hp⟩ => ?_
  obtain ⟨t, pt, h⟩ := (hb cdv hcd A outer s0 H E hr).ex
  refine ⟨t, pt, h ⟨G, hs, H, none⟩ (L2.start N vs) H G hs (fun _ => 0) (padE N.length (ds.map .v)) s _ ⟨J, Stp.refl _ _ _ _, fun i d e => ?_, fun i d e => ?_, fun i j d d' e => ?_, ?_, fun _ _ z => by cases z⟩ (fnD_post (A := ⟨G, hs, H, none⟩) hp)⟩
  · have e1 := pad_get e (fun z => by cases z)
    rw [List.getElem?_map, Option.map_eq_some_iff] at e1
    obtain ⟨d', e2, e3⟩ := e1
    cases e3
    obtain ⟨v, h1, h2⟩ := r.get e2
    exact ⟨v, start_get h1, h2⟩
  · have e1 := pad_get e (fun z => by cases z)
    rw [List.getElem?_map, Option.map_eq_some_iff] at e1
    obtain ⟨d', e2, e3⟩ := e1
    cases e3
  · have e1 := pad_get e (fun z => by cases z)
    rw [List.getElem?_map, Option.map_eq_some_iff] at e1
    obtain ⟨d', e2, e3⟩ := e1
    cases e3
  · rw [start_len, ← r.length]
    unfold padE
    rw [List.length_append, List.length_replicate, List.length_map]
theorem in_okT {x qual : Str} {st : Stmt} {p : He.Defn} {fd : FuncData} {N ps : List Str} {k c : Nat} {body : Env → DS → F} (F : Fun K x qual st (He.fAd K p) fd) (S : FnScope N ps (defScope st)) (hb : ∀ cdv : Value, cdv = .ref (He.cT K p).1 → BodyC M P w K mg base k N qual st (He.fAd K p) cdv body) : FnOk P w K mg base (L2.CX P w) (k + 1) (He.fAd K p) fd ps (SpI K M c ps.length (inD c N.length body)) := by
  refine Fun.okC F S (fun vs H Q E ⟨G, hs, s, ds, x, dx, H0, vs', e, _, _, _, _, _, r, hl, _⟩ => by rw [e, List.length_cons, ← r.length, hl]) fun cdv hcd A outer s0 H vs Q E hr ⟨G, hs, s, ds, x, dx, H0, vs', e, h1, h2, h3, h4, J, r, hl, hp⟩ => ?_
  subst e h4
  obtain ⟨t, pt, h⟩ := (hb cdv hcd A outer s0 _ E hr).ex
  have ext : ∀ a o, H0 a = some o → upd (upd H0 dx (.own x)) x (.ins (M.cls c) dx []) a = some o := fun a o e => by
    rw [upd_ne (ne_of_none e h1), upd_ne (ne_of_none e h2)]
    exact e
  obtain ⟨f1, f2, f3⟩ := J.free h1
  have own0 : ∀ {i : Nat} {d : D}, (padE N.length (.o (.obj c []) :: ds.map .v))[i]? = some (.o d) → i = 0 ∧ d = .obj c [] := fun {i d} e => by
    have e1 := pad_get e (fun z => by cases z)
    cases i with
    | zero => simp at e1; exact ⟨rfl, e1.symm⟩
    | succ i =>
      rw [List.getElem?_cons_succ, List.getElem?_map, Option.map_eq_some_iff] at e1
      obtain ⟨d', e2, e3⟩ := e1
      cases e3
  refine ⟨t, pt, h ⟨G, hs, H0, some x⟩ (L2.start N (.ref x :: vs')) _ G hs (fun _ => x) (padE N.length (.o (.obj c []) :: ds.map .v)) s _ ⟨J.extH ext, Stp.extH ext, fun i d e => ?_, fun i d e => ?_, fun i j d d' e e' _ => by rw [(own0 e).1, (own0 e').1], ?_, fun y d z _ => Option.some.inj z⟩ ?_⟩
  · have e1 := pad_get e (fun z => by cases z)
    cases i with
    | zero => simp at e1
    | succ i =>
      rw [List.getElem?_cons_succ, List.getElem?_map, Option.map_eq_some_iff] at e1
      obtain ⟨d', e2, e3⟩ := e1
      cases e3
      obtain ⟨v, h1, h2⟩ := r.get e2
      exact ⟨v, start_get (by rw [List.getElem?_cons_succ]; exact h1), h2⟩
  · obtain ⟨rfl, rfl⟩ := own0 e
    exact ⟨start_get rfl, ⟨dx, [], upd_same, by simp, repL_nil.mpr rfl⟩, f1, f2, f3, nt_none h1⟩
  · rw [start_len]
    unfold padE
    rw [List.length_append, List.length_replicate, List.length_cons, List.length_cons, List.length_map, r.length]
  · unfold inD at hp
    split at hp
    · rename_i η s1 e
      rw [e]
      intro σ H' G' hs' own I
      split at hp
      · rename_i d e0
        obtain ⟨k1, k2, k3, k4, k5, k6⟩ := I.ow 0 d e0
        rw [I.sf x d rfl e0] at k2 k3 k4 k5
        exact hp G' hs' H' I.stp I.sim ⟨k2, k3, k4, k5⟩
      · exact hp.elim
    · rename_i e
      rw [e]
      exact fun σ H G hs own cls dx I x => hp G hs H cls dx I.stp I.sim x
    · exact hp.elim

theorem de_lam {A : Around} {outer : List PySem.Env} {s : Shared} {H : Hp} {E : XK} {scope : Scope} {f c' : Addr} {k : Nat} {e : Expr} {fb : Env → DS → R D} (hr : Room k (A.deeper (LamX.lamEnv X scope s.heap.objs.size f c')))
    (h : (A.deeper (LamX.lamEnv X scope s.heap.objs.size f c')).units + 64 < cLine → Takes (LamX.lamCx X A outer s H E scope f c') (WofE E) → Flat (WofE E) → DE M (LamX.lamCx X A outer s H E scope f c') (WofE E) e fb) : DE M (LamX.lamCx X A outer s H E scope f c') (WofE E) e fb :=
  h hr.units (takes_of rfl rfl rfl rfl) (fun _ _ _ _ _ z => z)
theorem blkE {scope : Scope} {s : Shared} {H : Hp} {C : Addr} {cl : List (Str × Addr)} {fp : List Addr} {k : Nat} {e : Expr} {fb : Env → DS → R D} (hr : Room k X.A)
    (h : X.A.units + 64 < cLine → Takes (BC X scope s H C cl fp) W0 → Flat W0 → DE M (BC X scope s H C cl fp) W0 e fb) : DE M (BC X scope s H C cl fp) W0 e fb := h hr.units L2.takes0 (fun _ _ _ _ _ z => z)
theorem blkT {scope : Scope} {s : Shared} {H : Hp} {C : Addr} {cl : List (Str × Addr)} {fp : List Addr} {k : Nat} {e : List Expr} {fb : Env → DS → R Bool} (hr : Room k X.A)
    (h : X.A.units + 64 < cLine → Takes (BC X scope s H C cl fp) W0 → Flat W0 → DTs M (BC X scope s H C cl fp) W0 e fb) : DTs M (BC X scope s H C cl fp) W0 e fb := h hr.units L2.takes0 (fun _ _ _ _ _ z => z)
def calmN (c n : Nat) (f : Env → DS → R D) : Env → DS → R D := fun η s => (f η s).bind fun d s1 => match d with
  | .obj c' ds => if c' = c ∧ ds.length = n then .ok d s1 else .bad
  | _ => .bad
theorem DF.deN {e : Expr} {f : Env → DS → R D} {c n : Nat} (h : DF M X W e f) (hn : (M.flds c).length = n := by rfl) : DE M X W e (calmN c n f) := by
  obtain ⟨t, p, h⟩ := h.ex
  refine ⟨t, p, fun A σ H G hs own η s Q I hp => h A σ H G hs own η s Q I ?_⟩
  unfold calmN at hp
  cases q : f η s with
  | ok d s1 =>
    rw [q] at hp
    intro G1 hs1 H1 S1 J1 p hp0 fr
    have hp2 : RPost X.K M σ W G hs H (match d with | .obj c' ds => if c' = c ∧ ds.length = n then R.ok d s1 else .bad | _ => .bad) (fun d G' hs' _ H' => ∀ v, Rep X.K M G' hs' d v → Q v H') := hp
    split at hp2
    · rename_i c' ds
      split at hp2
      · rename_i hc
        obtain ⟨o, ho, hr⟩ := at_rep fr.g fr.at_ (fun c2 ds2 e2 => by cases e2; rw [hc.2, hc.1, hn])
        exact hp2 _ hs1 H1 (S1.still hp0 fr.g) (J1.still ho fr.h fr.t fr.g (at_no fr.at_ ho)) _ hr
      · exact hp2.elim
    · exact hp2.elim
  | ex c p s1 => rw [q] at hp; exact hp
  | bad => rw [q] at hp; exact hp
end
end DL
set_option Elab.async false
set_option linter.all false
set_option maxRecDepth 100000
set_option maxHeartbeats 2000000
namespace DL
open PySem PySem.Spec PyProof.Rows L2
/-! ### the end: the law's promise at its start -/
theorem law_sp {K : PySem.W.Frag} {M : Mp} {cs : List (Addr × Addr)} (g : List D → DS → R D) {n : Nat} (hg : ∀ ns : List Int, ns.length ≤ n → ∃ s, g [.scr ns] [] = .ok (.bl true) s) (ht : ∀ p ∈ M.tabs, ∃ q ∈ cs, q.2 = p.1)
    (H : Hp) (a : Addr) (ns : List Int) (hl : ns.length ≤ n) (hT : ∀ p ∈ cs, H p.2 = some (.tbl #[])) (hS : SqL K H a (ns.map V.int)) : SpD K M 1 g [.ref a] H (fun v _ => v = .bl true) fun _ _ _ => False := by
  obtain ⟨s, hs⟩ := hg ns hl
  let G : Hp := fun b => match H b with
    | some (.tbl _) => none
    | o => o
  have gs : Same G H := fun b o e => by
    show H b = some o
    have e1 : (match H b with | some (.tbl _) => none | o => o) = some o := e
    split at e1
    · cases e1
    · exact e1
  have keep : ∀ b o, H b = some o → (∀ ps, o ≠ .tbl ps) → G b = some o := fun b o e no => by
    show (match H b with | some (.tbl _) => none | o => o) = some o
    rw [e]
    cases o with
    | tbl ps => exact absurd rfl (no ps)
    | _ => rfl
  have tG : ∀ b o, G b = some o → ∀ ps, o ≠ .tbl ps := fun b o e ps z => by
    subst z
    have e1 : (match H b with | some (.tbl _) => none | o => o) = some (HO.tbl ps) := e
    split at e1
    · cases e1
    · rename_i h1
      exact h1 _ e1
  have hS' : SqL K G a (ns.map V.int) := by
    rcases hS with (h | ⟨o, h⟩) | h
    · exact .inl (.inl (keep _ _ h fun ps z => by cases z))
    · exact .inl (.inr ⟨o, keep _ _ h fun ps z => by cases z⟩)
    · exact .inr h
  refine ⟨G, [], [], [.scr ns], ⟨gs, rfl, List.nodup_nil, fun _ h => (by cases h), fun k a d e => (by simp at e), fun p hp => ?_, tG⟩, repL_cons.mpr ⟨_, [], rfl, rep_scr.mpr ⟨a, rfl, hS'⟩, repL_nil.mpr rfl⟩, rfl, ?_⟩
  · obtain ⟨q, hq, e⟩ := ht p hp
    rw [← e]
    exact LamX.TabS.nil (hT q hq)
  · rw [hs]
    exact fun G' hs' H' _ _ v hv => rep_bl.mp hv
theorem cx_no {P : Program} {w : World} {H : Hp} {s : Shared} {e : Value} {s' : Shared} (h : L2.CX P w [] H s (fun _ _ _ => False) e s') : False := by
  obtain ⟨_, _, _, _, _, _, _, _, _, _, _, _, z⟩ := h
  exact z
theorem binds_one {K : PySem.W.Frag} {x q : Str} {st : Stmt} {f : Addr} {fd : FuncData} {a : Str} (F : Fun K x q st f fd) (h : ∀ (kV doc pm : Value) (an : Option Addr) (cdv ct u : Value), bindArgs (PySem.W.fnOf x q (defArgs st) (defBody st) (defScope st) .none kV doc pm an cdv ct) ⟨[u], []⟩ = pure [(a, u)]) (s : Shared) (u : Value) :
    BindsTo s fd ⟨[u], []⟩ [(a, u)] := by
  obtain ⟨oc, od, kV, doc, pm, an, cdv, ct, osl, rfl, lk, hcd⟩ := F.ex
  exact .of_eq (h kV doc pm an cdv ct u)
end DL
set_option Elab.async false
set_option linter.all false
set_option maxRecDepth 100000
set_option maxHeartbeats 2000000
namespace DL
open PySem L2
/-! ### the mirrors, step by step, for simp -/
theorem andThen_ite {c : Prop} [Decidable c] {a b : F} {α : Type} {k : F → α} : k (if c then a else b) = if c then k a else k b := by
  split <;> rfl
def F.then (r : F) (g : DL.Env → DS → F) : F := match r with
  | .nx η' s' => g η' s'
  | r => r
def R.bnd {α β : Type} (r : R α) (k : α → DS → R β) : R β := match r with
  | .ok a s => k a s
  | .ex c p s => .ex c p s
  | .bad => .bad
section
variable {α β : Type} {η : DL.Env} {s s' : DS} {f g : DL.Env → DS → F} {fa fb fc : DL.Env → DS → R D} {ft : DL.Env → DS → R Bool} {c : Nat} {p : List D} {d : D} {a : α} {i n : Nat}
theorem seqB_eq : seqB f g η s = (f η s).then g := rfl
theorem then_nx : (F.nx η s).then g = g η s := rfl
theorem then_rt : (F.rt d s).then g = .rt d s := rfl
theorem then_bk : (F.bk η s).then g = .bk η s := rfl
theorem then_ct : (F.ct η s).then g = .ct η s := rfl
theorem then_ex : (F.ex c p η s).then g = .ex c p η s := rfl
theorem then_bad : F.bad.then g = .bad := rfl
theorem then_ite {q : Prop} [Decidable q] {a b : F} : (if q then a else b).then g = if q then a.then g else b.then g := by split <;> rfl
theorem then_congr {a b : F} (h : a = b) : a.then g = b.then g := by rw [h]
theorem bind_ok {k : α → DS → R β} : (R.ok a s).bnd k = k a s := rfl
theorem bind_ex {k : α → DS → R β} : (R.ex c p s).bnd k = .ex c p s := rfl
theorem bind_bad {k : α → DS → R β} : (R.bad : R α).bnd k = .bad := rfl
theorem bind_ite {q : Prop} [Decidable q] {x y : R α} {k : α → DS → R β} : (if q then x else y).bnd k = if q then x.bnd k else y.bnd k := by split <;> rfl
theorem bind_congr {x y : R α} {k : α → DS → R β} (h : x = y) : x.bnd k = y.bnd k := by rw [h]
theorem toF_ok {k : α → DS → F} : (R.ok a s).toF η k = k a s := rfl
theorem toF_ex {k : α → DS → F} : (R.ex c p s : R α).toF η k = .ex c p η s := rfl
theorem toF_bad {k : α → DS → F} : (R.bad : R α).toF η k = .bad := rfl
theorem toF_ite {q : Prop} [Decidable q] {x y : R α} {k : α → DS → F} : (if q then x else y).toF η k = if q then x.toF η k else y.toF η k := by split <;> rfl
theorem toF_congr {x y : R α} {k : α → DS → F} (h : x = y) : x.toF η k = y.toF η k := by rw [h]
theorem ofO_some : R.ofO (some a) s = .ok a s := rfl
theorem ofO_none : R.ofO (none : Option α) s = .bad := rfl
theorem ofO_ite {q : Prop} [Decidable q] {x y : Option α} : R.ofO (if q then x else y) s = if q then R.ofO x s else R.ofO y s := by split <;> rfl
theorem nx_ok : (R.ok a s).nx = .ok a s := rfl
theorem cD_eq : cD d η s = .ok d s := rfl
theorem vD_0 : vD 0 (.v d :: η) s = .ok d s := rfl
theorem vD_s {x : Sl} : vD (i + 1) (x :: η) s = vD i η s := rfl
theorem vB_0 : vB 0 (.v d :: η) s = .ok d s := rfl
theorem vB_o : vB 0 (.o d :: η) s = .ok d s := rfl
theorem vB_s {x : Sl} : vB (i + 1) (x :: η) s = vB i η s := rfl
theorem bopD_eq {o : D → D → Option D} : bopD o fa fb η s = (fa η s).bnd fun x s1 => (fb η s1).bnd fun y s2 => R.ofO (o (deref s2 x) (deref s2 y)) s2 := rfl
theorem uopD_eq {o : D → Option D} : uopD o fa η s = (fa η s).bnd fun x s1 => R.ofO (o (deref s1 x)) s1 := rfl
theorem tstD_eq : tstD fa η s = (fa η s).bnd fun x s1 => R.ofO (asB x) s1 := rfl
theorem asB_bl {b : Bool} : asB (.bl b) = some b := rfl
theorem asI_int {i : Int} : asI (.int i) = some i := rfl
theorem deref_int {i : Int} : deref s (.int i) = .int i := rfl
theorem deref_bl {i : Bool} : deref s (.bl i) = .bl i := rfl
theorem deref_str {i : Str} : deref s (.str i) = .str i := rfl
theorem deref_non : deref s .non = .non := rfl
theorem deref_tup {l : List D} : deref s (.tup l) = .tup l := rfl
theorem deref_lst {l : List D} : deref s (.lst l) = .lst l := rfl
theorem deref_dic {l : List (D × D)} : deref s (.dic l) = .dic l := rfl
theorem deref_obj {l : List D} : deref s (.obj c l) = .obj c l := rfl
theorem deref_scr {l : List Int} : deref s (.scr l) = .scr l := rfl
theorem chD_eq {o o' : D → D → Option D} : chD o o' fa fb fc η s = (fa η s).bnd fun x s1 => (fb η s1).bnd fun y s2 => (R.ofO (o (deref s2 x) (deref s2 y)) s2).bnd fun z s3 =>
  (R.ofO (asB z) s3).bnd fun k s3 => if k = true then (fc η s3).bnd fun w s4 => R.ofO (o' (deref s4 y) (deref s4 w)) s4 else .ok (.bl false) s3 := rfl
theorem andT_eq {f g : DL.Env → DS → R Bool} : andT f g η s = (f η s).bnd fun b s1 => if b = true then g η s1 else .ok false s1 := rfl
theorem orT_eq {f g : DL.Env → DS → R Bool} : orT f g η s = (f η s).bnd fun b s1 => if b = true then .ok true s1 else g η s1 := rfl
theorem notT_eq {f : DL.Env → DS → R Bool} : notT f η s = (f η s).bnd fun b s1 => .ok (!b) s1 := rfl
theorem ifD_eq : ifD ft fa fb η s = (ft η s).bnd fun b s1 => if b = true then fa η s1 else fb η s1 := rfl
theorem andD_eq : andD fa fb η s = (tstD fa η s).bnd fun b s1 => if b = true then fb η s1 else .ok (.bl false) s1 := rfl
theorem orD_eq : orD fa fb η s = (tstD fa η s).bnd fun b s1 => if b = true then .ok (.bl true) s1 else fb η s1 := rfl
theorem notD_eq : notD fa η s = (tstD fa η s).bnd fun b s1 => .ok (.bl (!b)) s1 := rfl
theorem nilA_eq : nilA η s = .ok [] s := rfl
theorem consA_eq {ga : DL.Env → DS → R (List D)} : consA fa ga η s = (fa η s).bnd fun d s1 => (ga η s1).bnd fun ds s2 => .ok (d :: ds) s2 := rfl
theorem tupD_eq {ga : DL.Env → DS → R (List D)} : tupD ga η s = (ga η s).bnd fun ds s1 => if ds.length ≤ 16777216 then .ok (.tup ds) s1 else .bad := rfl
theorem lstD_eq {ga : DL.Env → DS → R (List D)} : lstD ga η s = (ga η s).bnd fun ds s1 => if ds.length ≤ 16777216 then .ok (.lst ds) s1 else .bad := rfl
theorem fldD_eq : fldD c i fa η s = (fa η s).bnd fun x s1 => R.ofO (fldO c i (deref s1 x)) s1 := rfl
theorem bltD_eq {o : List D → Option D} {ga : DL.Env → DS → R (List D)} : bltD o ga η s = (ga η s).bnd fun ds s1 => R.ofO (o (ds.map (deref s1))) s1 := rfl
theorem partN_eq : partN η s = .ok none s := rfl
theorem partS_eq : partS fa η s = (fa η s).bnd fun d s1 => (R.ofO (asI d) s1).bnd fun i s2 => .ok (some i) s2 := rfl
theorem sliceD_eq {fl fh : DL.Env → DS → R (Option Int)} : sliceD fa fl fh η s = (fa η s).bnd fun x s1 => (fl η s1).bnd fun l s2 => (fh η s2).bnd fun u s3 => R.ofO (opCut (deref s3 x) l u) s3 := rfl
theorem callD_eq {g : List D → DS → R D} {ga : DL.Env → DS → R (List D)} : callD g ga η s = (ga η s).bnd fun ds s1 => g ds s1 := rfl
theorem gateD_eq {g : List D → DS → R D} {l : List D} : gateD n g l s = if l.length = n then g l s else .bad := rfl
theorem methD_eq {g : List D → DS → R D} {fo : DL.Env → DS → R D} {ga : DL.Env → DS → R (List D)} : methD c g fo ga η s = (fo η s).bnd fun o s1 => if isC c (deref s1 o) = true then (ga η s1).bnd fun ds s2 => g (o :: ds) s2 else .bad := rfl
theorem isC_obj {c' : Nat} {l : List D} : isC c (.obj c' l) = (c' == c) := rfl
theorem calmD_eq : calmD fa η s = (fa η s).bnd fun d s1 => if notObj d = true then .ok d s1 else .bad := rfl
theorem calmN_ok {c' : Nat} {l : List D} (h : fa η s = .ok (.obj c l) s') (hl : l.length = n) : calmN c n fa η s = .ok (.obj c l) s' := by
  unfold calmN
  rw [h]
  show (if c = c ∧ l.length = n then R.ok (D.obj c l) s' else .bad) = _
  rw [if_pos ⟨rfl, hl⟩]
def calmK (c n : Nat) (d : D) (s : DS) : R D := match d with
  | .obj c' ds => if c' = c ∧ ds.length = n then .ok d s else .bad
  | _ => .bad
theorem calmN_eq : calmN c n fa η s = (fa η s).bnd (calmK c n) := rfl
theorem calmK_obj {l : List D} : calmK c n (.obj c l) s = if l.length = n then .ok (.obj c l) s else .bad := by
  unfold calmK
  simp only [true_and]
theorem hanD_eq : hanD fa η s = (fa η s).bnd fun d s1 => .ok (.han s1.length) (s1 ++ [d]) := rfl
theorem setB_eq : setB i fa η s = (fa η s).toF η fun d s1 => setF η i d s1 := rfl
theorem setOB_eq : setOB i fa η s = (fa η s).toF η fun d s1 => setOF η i d s1 := rfl
theorem setF_eq : setF η i d s = if i < η.length then .nx (η.set i (.v d)) s else .bad := rfl
theorem setOF_eq : setOF η i d s = if 0 < i ∧ i < η.length then .nx (η.set i (.o d)) s else .bad := rfl
theorem ifB_eq : ifB ft f g η s = (ft η s).toF η fun b s1 => if b = true then f η s1 else g η s1 := rfl
theorem retB_eq : retB fa η s = (fa η s).toF η fun d s1 => .rt d s1 := rfl
theorem retN_eq : retN η s = .rt .non s := rfl
theorem dropB_eq : dropB fa η s = (fa η s).toF η fun _ s1 => .nx η s1 := rfl
theorem nextB_eq : nextB η s = .nx η s := rfl
theorem breakB_eq : breakB η s = .bk η s := rfl
theorem contB_eq : contB η s = .ct η s := rfl
theorem raiseA_eq {ga : DL.Env → DS → R (List D)} : raiseA c ga η s = (ga η s).toF η fun _ s1 => .ex c [] η s1 := rfl
theorem augB_eq {o : D → D → Option D} : augB i o fa η s = (bopD o (vD i) fa η s).toF η fun d s1 => setF η i d s1 := rfl
theorem frzB_eq {is : List Nat} : frzB is f η s = f (frzL is η) s := rfl
def asgK (f : D → DL.Env → Option DL.Env) (η : DL.Env) (d : D) (s : DS) : F := match f d η with
  | some η' => .nx η' s
  | none => .bad
theorem asgB_eq {f : D → DL.Env → Option DL.Env} : asgB f fa η s = (fa η s).toF η (asgK f η) := rfl
theorem asgK_of {f : D → DL.Env → Option DL.Env} {η' : DL.Env} (h : f d η = some η') : asgK f η d s = .nx η' s := by
  unfold asgK
  rw [h]
theorem asg2B_eq {f1 f2 : D → DL.Env → Option DL.Env} : asg2B f1 f2 fa η s = (fa η s).toF η fun d s1 => asgK (fun d η => (f1 d η).bind (f2 d)) η d s1 := rfl
theorem parB_eq {is : List Nat} {ga : DL.Env → DS → R (List D)} : parB is ga η s = (ga η s).toF η fun ds s1 => parB.putAll is ds η s1 := rfl
theorem putAll_nil : parB.putAll [] [] η s = .nx η s := rfl
theorem putAll_cons {is : List Nat} {ds : List D} : parB.putAll (i :: is) (d :: ds) η s = if i < η.length then parB.putAll is ds (η.set i (.v d)) s else .bad := rfl
def asgFK (is : List Nat) (η : DL.Env) (l : List Sl) (s : DS) : F := match putS is l η with
  | some η' => .nx η' s
  | none => .bad
theorem asgFB_eq {is : List Nat} {ga : DL.Env → DS → R (List Sl)} : asgFB is ga η s = (ga η s).toF η (asgFK is η) := rfl
theorem nilF_eq : nilF η s = .ok [] s := rfl
theorem consV_eq {ga : DL.Env → DS → R (List Sl)} : consV fa ga η s = (fa η s).bnd fun d s1 => (ga η s1).bnd fun ds s2 => .ok (.v d :: ds) s2 := rfl
theorem consO_eq {ga : DL.Env → DS → R (List Sl)} : consO fa ga η s = (fa η s).bnd fun d s1 => (ga η s1).bnd fun ds s2 => .ok (.o d :: ds) s2 := rfl
theorem gN_eq : gN i d η = if i < η.length then some (η.set i (.v d)) else none := rfl
theorem gsN_eq : gsN [] η = some η := rfl
theorem gsC_eq {f : D → DL.Env → Option DL.Env} {g : List D → DL.Env → Option DL.Env} {ds : List D} : gsC f g (d :: ds) η = (f d η).bind (g ds) := rfl
theorem gT_eq {g : List D → DL.Env → Option DL.Env} {ds : List D} : gT g (.tup ds) η = g ds η := rfl
def fnK (r : F) : R D := match r with
  | .nx _ s1 => .ok .non s1
  | .rt d s1 => .ok d s1
  | .ex c p _ s1 => .ex c p s1
  | _ => .bad
theorem fnD_eq {l : List D} : fnD n f l s = fnK (f (padE n (l.map .v)) s) := rfl
theorem fnK_nx : fnK (.nx η s) = .ok .non s := rfl
theorem fnK_rt : fnK (.rt d s) = .ok d s := rfl
theorem fnK_ex : fnK (.ex c p η s) = .ex c p s := rfl
theorem fnK_bad : fnK .bad = .bad := rfl
theorem fnK_ite {q : Prop} [Decidable q] {x y : F} : fnK (if q then x else y) = if q then fnK x else fnK y := by split <;> rfl
def inK (r : F) : R D := match r with
  | .nx η s1 => (match η[0]? with
    | some (Sl.o d) => .ok d s1
    | _ => .bad)
  | .ex c p _ s1 => .ex c p s1
  | _ => .bad
theorem inD_eq {l : List D} : inD c n f l s = inK (f (padE n (.o (.obj c []) :: l.map .v)) s) := rfl
theorem inK_nx : inK (.nx (.o d :: η) s) = .ok d s := rfl
theorem inK_ex : inK (.ex c p η s) = .ex c p s := rfl
theorem inK_ite {q : Prop} [Decidable q] {x y : F} : inK (if q then x else y) = if q then inK x else inK y := by split <;> rfl
def toldK (l : List (Nat × Str)) (r : R D) : R D := match r with
  | .ok d s1 => .ok d s1
  | .ex c _ s1 => (match l.lookup c with
    | some r => .ok (.str r) s1
    | none => .bad)
  | .bad => .bad
theorem toldD_eq {l : List (Nat × Str)} : toldD l fa η s = toldK l (fa η s) := rfl
theorem toldK_ok {l : List (Nat × Str)} : toldK l (.ok d s) = .ok d s := rfl
theorem toldK_ex {l : List (Nat × Str)} : toldK l (.ex c p s) = (match l.lookup c with | some r => .ok (.str r) s | none => .bad) := rfl
theorem toldK_ite {l : List (Nat × Str)} {q : Prop} [Decidable q] {x y : R D} : toldK l (if q then x else y) = if q then toldK l x else toldK l y := by split <;> rfl
end
/-! ### the operators at ints -/
theorem opAdd_int {a b : Int} : opAdd (.int a) (.int b) = some (.int (a + b)) := rfl
theorem opAug_int {a b : Int} : opAug (.int a) (.int b) = some (.int (a + b)) := rfl
theorem opSub_int {a b : Int} : opSub (.int a) (.int b) = some (.int (a - b)) := rfl
theorem opMul_int {a b : Int} (h : (-18446744073709551616 < a ∧ a < 18446744073709551616) ∨ (-18446744073709551616 < b ∧ b < 18446744073709551616)) : opMul (.int a) (.int b) = some (.int (a * b)) := by
  unfold opMul
  simp only
  rw [if_pos]
  simpa [small64, Bool.or_eq_true, cl_iff] using h
theorem opMul_r {a b : Int} (h : -18446744073709551616 < b ∧ b < 18446744073709551616) : opMul (.int a) (.int b) = some (.int (a * b)) := opMul_int (.inr h)
theorem opMul_l {a b : Int} (h : -18446744073709551616 < a ∧ a < 18446744073709551616) : opMul (.int a) (.int b) = some (.int (a * b)) := opMul_int (.inl h)
theorem opMulI_int {a b : Int} (h : (-18446744073709551616 < a ∧ a < 18446744073709551616) ∨ (-18446744073709551616 < b ∧ b < 18446744073709551616)) : opMulI (.int a) (.int b) = some (.int (a * b)) := by
  unfold opMulI
  simp only
  rw [if_pos]
  simpa [small64, Bool.or_eq_true, cl_iff] using h
theorem opMulI_r {a b : Int} (h : -18446744073709551616 < b ∧ b < 18446744073709551616) : opMulI (.int a) (.int b) = some (.int (a * b)) := opMulI_int (.inr h)
theorem opMulI_l {a b : Int} (h : -18446744073709551616 < a ∧ a < 18446744073709551616) : opMulI (.int a) (.int b) = some (.int (a * b)) := opMulI_int (.inl h)
theorem opDiv_int {a b : Int} (h : 0 < b ∧ b < 18446744073709551616) : opDiv (.int a) (.int b) = some (.int (a / b)) := if_pos (cl_yes h)
theorem opMod_int {a b : Int} (h : 0 < b) : opMod (.int a) (.int b) = some (.int (a % b)) := if_pos h
theorem opLt_int {a b : Int} : opLt (.int a) (.int b) = some (.bl (decide (a < b))) := rfl
theorem opLe_int {a b : Int} : opLe (.int a) (.int b) = some (.bl (decide (a ≤ b))) := rfl
theorem opGt_int {a b : Int} : opGt (.int a) (.int b) = some (.bl (decide (b < a))) := rfl
theorem opGe_int {a b : Int} : opGe (.int a) (.int b) = some (.bl (decide (b ≤ a))) := rfl
theorem opEq_int {a b : Int} : opEq (.int a) (.int b) = some (.bl (decide (a = b))) := by
  show some (D.bl (a == b)) = _
  congr 2
theorem opNe_int {a b : Int} : opNe (.int a) (.int b) = some (.bl (!decide (a = b))) := by
  show some (D.bl (!(a == b))) = _
  congr 3
theorem min2_int {a b : Int} : min2O [.int a, .int b] = some (.int (min a b)) := by
  show some (D.int (if b < a then b else a)) = _
  congr 2
  split <;> omega
theorem max2_int {a b : Int} : max2O [.int a, .int b] = some (.int (max a b)) := by
  show some (D.int (if b > a then b else a)) = _
  congr 2
  split <;> omega
theorem absO_int {a : Int} : absO [.int a] = some (.int (a.natAbs : Int)) := by
  show some (D.int (if a < 0 then -a else a)) = _
  congr 2
  split <;> omega
theorem intO_int {a : Int} : intO [.int a] = some (.int a) := rfl
theorem intO_bl {a : Bool} : intO [.bl a] = some (.int (if a then 1 else 0)) := rfl
theorem fldO_eq {c i : Nat} {ds : List D} : fldO c i (.obj c ds) = ds[i]? := if_pos rfl
theorem opIx_t {ds : List D} {i : Int} : opIx (.tup ds) (.int i) = atI ds i := rfl
theorem opIx_l {ds : List D} {i : Int} : opIx (.lst ds) (.int i) = atI ds i := rfl
theorem atI_ofNat {ds : List D} {i : Int} (h0 : 0 ≤ i) (h : i < ds.length) : atI ds i = ds[i.toNat]? := by
  unfold atI ixN
  simp [h0, h]
theorem ite_yes {α : Sort _} {c : Prop} [Decidable c] {a b : α} (h : c) : (if c then a else b) = a := if_pos h
theorem ite_no {α : Sort _} {c : Prop} [Decidable c] {a b : α} (h : ¬ c) : (if c then a else b) = b := if_neg h

theorem dec_yes {p : Prop} [Decidable p] (h : p) : decide p = true := decide_eq_true h
theorem dec_no {p : Prop} [Decidable p] (h : ¬ p) : decide p = false := decide_eq_false h
/-! ### places -/
section
variable {α β : Type} {η : DL.Env} {s s' : DS} {f g : DL.Env → DS → F} {fa fb fc : DL.Env → DS → R D} {ft : DL.Env → DS → R Bool} {c : Nat} {p : List D} {d x : D} {i j k n : Nat}
def plK (o : Option Sl) (i : Nat) (s : DS) : R Plc := match o with
  | some (.o _) => .ok (.slot i) s
  | some (.v (.han k)) => .ok (.han k) s
  | _ => .bad
theorem plV_eq : plV i η s = plK η[i]? i s := rfl
theorem plK_o : plK (some (.o d)) i s = .ok (.slot i) s := rfl
theorem plK_h : plK (some (.v (.han k))) i s = .ok (.han k) s := rfl
def plEK (d : D) (s : DS) : R Plc := match d with
  | .han k => .ok (.han k) s
  | _ => .bad
theorem plE_eq : plE fa η s = (fa η s).bnd plEK := rfl
theorem plEK_h : plEK (.han k) s = .ok (.han k) s := rfl
def wrSU (o : Option D) (i : Nat) (η : DL.Env) (s : DS) : F := match o with
  | some d' => .nx (η.set i (.o d')) s
  | none => .bad
def wrS (o : Option Sl) (u : D → Option D) (i : Nat) (η : DL.Env) (s : DS) : F := match o with
  | some (.o d) => wrSU (u d) i η s
  | _ => .bad
def wrHU (o : Option D) (k : Nat) (η : DL.Env) (s : DS) : F := match o with
  | some d' => .nx η (s.set k d')
  | none => .bad
def wrH (o : Option D) (u : D → Option D) (k : Nat) (η : DL.Env) (s : DS) : F := match o with
  | some d => wrHU (u d) k η s
  | none => .bad
theorem wrF_slot {u : D → Option D} : wrF (.slot i) u η s = wrS η[i]? u i η s := by
  show (match (match η[i]? with | some (.o d) => some d | _ => none) with | some d => (match u d with | some d' => F.nx (η.set i (.o d')) s | none => .bad) | none => F.bad) = _
  unfold wrS wrSU
  generalize η[i]? = o
  cases o with
  | none => rfl
  | some x => cases x <;> rfl
theorem wrF_han {u : D → Option D} : wrF (.han k) u η s = wrH s[k]? u k η s := by
  show (match s[k]? with | some d => (match u d with | some d' => F.nx η (s.set k d') | none => .bad) | none => F.bad) = _
  unfold wrH wrHU
  generalize s[k]? = o
  cases o <;> rfl
theorem wrS_o {u : D → Option D} : wrS (some (.o d)) u i η s = wrSU (u d) i η s := rfl
theorem wrH_s {u : D → Option D} : wrH (some d) u k η s = wrHU (u d) k η s := rfl
theorem wrSU_s : wrSU (some d) i η s = .nx (η.set i (.o d)) s := rfl
theorem wrHU_s : wrHU (some d) k η s = .nx η (s.set k d) := rfl
theorem fldB_eq {fp : DL.Env → DS → R Plc} : fldB c j fa fp η s = (fa η s).toF η fun x s1 => (fp η s1).toF η fun pl s2 => wrF pl (fldU c j x) η s2 := rfl
theorem fldU_eq {ds : List D} : fldU c j x (.obj c ds) = if j ≤ ds.length then some (.obj c (if j < ds.length then ds.set j x else ds ++ [x])) else none := by
  unfold fldU
  simp only [true_and]
theorem stB_eq {fp : DL.Env → DS → R Plc} {fi : DL.Env → DS → R D} {u : D → D → D → Option D} : stB fa fp fi u η s = (fa η s).toF η fun x s1 => (fp η s1).toF η fun pl s2 => (fi η s2).toF η fun i s3 => wrF pl (u i x) η s3 := rfl
def stAK (o : Option D) (k : D → F) : F := match o with
  | some x => k x
  | none => .bad
theorem stAK_s {k : D → F} : stAK (some d) k = k d := rfl
theorem stAugB_eq {fp : DL.Env → DS → R Plc} {fi : DL.Env → DS → R D} {g o : D → D → Option D} {u : D → D → D → Option D} : stAugB fp fi g o fa u η s = (fp η s).toF η fun pl s1 => (fi η s1).toF η fun i s2 =>
    stAK ((plcD pl η s2).bind (g i)) fun x => (fa η s2).toF η fun y s3 => stAK (o (deref s3 x) (deref s3 y)) fun z => wrF pl (u i z) η s3 := rfl
theorem fldAugB_eq {fp : DL.Env → DS → R Plc} {o : D → D → Option D} : fldAugB c j fp o fa η s = (fp η s).toF η fun pl s1 => stAK ((plcD pl η s1).bind (fldO c j)) fun x => (fa η s1).toF η fun y s2 => stAK (o (deref s2 x) (deref s2 y)) fun z => wrF pl (fldU c j z) η s2 := rfl
def plS (o : Option Sl) : Option D := match o with
  | some (.o d) => some d
  | _ => none
theorem plcD_slot : plcD (.slot i) η s = plS η[i]? := rfl
theorem plcD_han : plcD (.han k) η s = s[k]? := rfl
theorem plS_o : plS (some (.o d)) = some d := rfl
theorem mtB_eq {ty : D → Bool} {fp : DL.Env → DS → R Plc} {ga : DL.Env → DS → R (List D)} {u : List D → D → Option D} : mtB ty fp ga u η s = (fp η s).toF η fun pl s1 => stAK (plcD pl η s1) fun d0 => if ty d0 = true then (ga η s1).toF η fun ds s2 => wrF pl (u ds) η s2 else .bad := rfl
theorem isLst_l {l : List D} : isLst (.lst l) = true := rfl
theorem appU_l {l : List D} : appU [x] (.lst l) = if l.length < 16777216 then some (.lst (l ++ [x])) else none := rfl
theorem setL_l {l : List D} {k : Int} : setL (.int k) x (.lst l) = (ixN l.length k).map fun j => .lst (l.set j x) := rfl
theorem getL_l {l : List D} {k : Int} : getL (.int k) (.lst l) = atI l k := rfl
theorem ixN_ok {n : Nat} {k : Int} (h : 0 ≤ k ∧ k < n) : ixN n k = some k.toNat := by
  unfold ixN
  rw [if_pos h.1, if_pos h.2]
theorem atI_0 {x : D} {l : List D} : atI (x :: l) 0 = some x := by
  unfold atI ixN
  rw [if_pos (by omega), if_pos (by rw [List.length_cons]; omega)]
  rfl
theorem atI_1 {x0 x1 : D} {l : List D} : atI (x0 :: x1 :: l) 1 = some x1 := by
  unfold atI ixN
  rw [if_pos (by omega), if_pos (by simp only [List.length_cons]; omega)]
  rfl
theorem atI_2 {x0 x1 x2 : D} {l : List D} : atI (x0 :: x1 :: x2 :: l) 2 = some x2 := by
  unfold atI ixN
  rw [if_pos (by omega), if_pos (by simp only [List.length_cons]; omega)]
  rfl
theorem atI_3 {x0 x1 x2 x3 : D} {l : List D} : atI (x0 :: x1 :: x2 :: x3 :: l) 3 = some x3 := by
  unfold atI ixN
  rw [if_pos (by omega), if_pos (by simp only [List.length_cons]; omega)]
  rfl
theorem atI_4 {x0 x1 x2 x3 x4 : D} {l : List D} : atI (x0 :: x1 :: x2 :: x3 :: x4 :: l) 4 = some x4 := by
  unfold atI ixN
  rw [if_pos (by omega), if_pos (by simp only [List.length_cons]; omega)]
  rfl
theorem atI_5 {x0 x1 x2 x3 x4 x5 : D} {l : List D} : atI (x0 :: x1 :: x2 :: x3 :: x4 :: x5 :: l) 5 = some x5 := by
  unfold atI ixN
  rw [if_pos (by omega), if_pos (by simp only [List.length_cons]; omega)]
  rfl
theorem atI_6 {x0 x1 x2 x3 x4 x5 x6 : D} {l : List D} : atI (x0 :: x1 :: x2 :: x3 :: x4 :: x5 :: x6 :: l) 6 = some x6 := by
  unfold atI ixN
  rw [if_pos (by omega), if_pos (by simp only [List.length_cons]; omega)]
  rfl
theorem atI_7 {x0 x1 x2 x3 x4 x5 x6 x7 : D} {l : List D} : atI (x0 :: x1 :: x2 :: x3 :: x4 :: x5 :: x6 :: x7 :: l) 7 = some x7 := by
  unfold atI ixN
  rw [if_pos (by omega), if_pos (by simp only [List.length_cons]; omega)]
  rfl
theorem atI_8 {x0 x1 x2 x3 x4 x5 x6 x7 x8 : D} {l : List D} : atI (x0 :: x1 :: x2 :: x3 :: x4 :: x5 :: x6 :: x7 :: x8 :: l) 8 = some x8 := by
  unfold atI ixN
  rw [if_pos (by omega), if_pos (by simp only [List.length_cons]; omega)]
  rfl
theorem atI_9 {x0 x1 x2 x3 x4 x5 x6 x7 x8 x9 : D} {l : List D} : atI (x0 :: x1 :: x2 :: x3 :: x4 :: x5 :: x6 :: x7 :: x8 :: x9 :: l) 9 = some x9 := by
  unfold atI ixN
  rw [if_pos (by omega), if_pos (by simp only [List.length_cons]; omega)]
  rfl
theorem atI_10 {x0 x1 x2 x3 x4 x5 x6 x7 x8 x9 x10 : D} {l : List D} : atI (x0 :: x1 :: x2 :: x3 :: x4 :: x5 :: x6 :: x7 :: x8 :: x9 :: x10 :: l) 10 = some x10 := by
  unfold atI ixN
  rw [if_pos (by omega), if_pos (by simp only [List.length_cons]; omega)]
  rfl
theorem atI_11 {x0 x1 x2 x3 x4 x5 x6 x7 x8 x9 x10 x11 : D} {l : List D} : atI (x0 :: x1 :: x2 :: x3 :: x4 :: x5 :: x6 :: x7 :: x8 :: x9 :: x10 :: x11 :: l) 11 = some x11 := by
  unfold atI ixN
  rw [if_pos (by omega), if_pos (by simp only [List.length_cons]; omega)]
  rfl
theorem atI_12 {x0 x1 x2 x3 x4 x5 x6 x7 x8 x9 x10 x11 x12 : D} {l : List D} : atI (x0 :: x1 :: x2 :: x3 :: x4 :: x5 :: x6 :: x7 :: x8 :: x9 :: x10 :: x11 :: x12 :: l) 12 = some x12 := by
  unfold atI ixN
  rw [if_pos (by omega), if_pos (by simp only [List.length_cons]; omega)]
  rfl
theorem atI_13 {x0 x1 x2 x3 x4 x5 x6 x7 x8 x9 x10 x11 x12 x13 : D} {l : List D} : atI (x0 :: x1 :: x2 :: x3 :: x4 :: x5 :: x6 :: x7 :: x8 :: x9 :: x10 :: x11 :: x12 :: x13 :: l) 13 = some x13 := by
  unfold atI ixN
  rw [if_pos (by omega), if_pos (by simp only [List.length_cons]; omega)]
  rfl
theorem atI_14 {x0 x1 x2 x3 x4 x5 x6 x7 x8 x9 x10 x11 x12 x13 x14 : D} {l : List D} : atI (x0 :: x1 :: x2 :: x3 :: x4 :: x5 :: x6 :: x7 :: x8 :: x9 :: x10 :: x11 :: x12 :: x13 :: x14 :: l) 14 = some x14 := by
  unfold atI ixN
  rw [if_pos (by omega), if_pos (by simp only [List.length_cons]; omega)]
  rfl
theorem atI_15 {x0 x1 x2 x3 x4 x5 x6 x7 x8 x9 x10 x11 x12 x13 x14 x15 : D} {l : List D} : atI (x0 :: x1 :: x2 :: x3 :: x4 :: x5 :: x6 :: x7 :: x8 :: x9 :: x10 :: x11 :: x12 :: x13 :: x14 :: x15 :: l) 15 = some x15 := by
  unfold atI ixN
  rw [if_pos (by omega), if_pos (by simp only [List.length_cons]; omega)]
  rfl
theorem atI_at {l : List D} {i : Int} (h : 0 ≤ i ∧ i < l.length) : atI l i = l[i.toNat]? := by
  unfold atI
  rw [ixN_ok h]
  rfl
theorem deref_han {l : DS} : deref (d :: l) (.han 0) = d := rfl
theorem notObj_l {l : List D} : notObj (.lst l) = true := rfl
theorem notObj_t {l : List D} : notObj (.tup l) = true := rfl
theorem notObj_d {l : List (D × D)} : notObj (.dic l) = true := rfl
/-! ### loops -/
theorem forB_eq {fi : DL.Env → DS → R (List D)} {put : D → DL.Env → Option DL.Env} : forB fi put f η s = (fi η s).toF η fun ds s1 => forF put f ds η s1 := rfl
theorem rngD_eq {o : List D → Option (List D)} {ga : DL.Env → DS → R (List D)} : rngD o ga η s = (ga η s).bnd fun ds s1 => R.ofO (o ds) s1 := rfl
theorem iterD_eq {o : D → Option (List D)} : iterD o fa η s = (fa η s).bnd fun d s1 => R.ofO (o d) s1 := rfl
theorem rng1_int {k : Int} (h : -4611686018427387904 ≤ k ∧ k < 4611686018427387904) : rng1 [.int k] = some (rngL 0 k.toNat) := by
  unfold rng1 small62
  simp only [cl_yes h.1, cl_yes h.2, Bool.and_self, if_true]
theorem rng2_int {j k : Int} (h : -4611686018427387904 ≤ j ∧ j < 4611686018427387904) (h2 : -4611686018427387904 ≤ k ∧ k < 4611686018427387904) : rng2 [.int j, .int k] = some (rngL j (k - j).toNat) := by
  unfold rng2 small62
  simp only [cl_yes h.1, cl_yes h.2, cl_yes h2.1, cl_yes h2.2, Bool.and_self, if_true]
theorem scrO_l {l : List D} : scrO (.lst l) = some l := rfl
theorem scrO_s {l : List Int} : scrO (.scr l) = some (l.map D.int) := rfl
theorem lstO_l {l : List D} : lstO (.lst l) = some l := rfl
theorem tupO_l {l : List D} : tupO (.tup l) = some l := rfl
theorem rngL_map : ∀ (n : Nat) (lo : Int), rngL lo n = (List.range n).map fun i : Nat => D.int (lo + (i : Int))
  | 0, _ => rfl
  | n + 1, lo => by
    rw [rngL, rngL_map n, List.range_succ_eq_map, List.map_cons, List.map_map]
    congr 1
    · simp
    · apply List.map_congr_left
      intro a _
      simp only [Function.comp]
      congr 1
      omega
theorem rngL_len (n : Nat) (lo : Int) : (rngL lo n).length = n := by rw [rngL_map]; simp
def goK (r : F) (k : DL.Env → DS → F) : F := match r with
  | .nx η2 s2 => k η2 s2
  | .ct η2 s2 => k η2 s2
  | .bk η2 s2 => .nx η2 s2
  | r => r
def putK (o : Option DL.Env) (k : DL.Env → F) : F := match o with
  | some η => k η
  | none => .bad
theorem forF_nil {put : D → DL.Env → Option DL.Env} : forF put f [] η s = .nx η s := rfl
theorem forF_cons {put : D → DL.Env → Option DL.Env} {l : List D} : forF put f (d :: l) η s = putK (put d η) fun η1 => goK (f η1 s) (forF put f l) := by
  rw [forF]
  cases put d η with
  | none => rfl
  | some η1 =>
    show (match f η1 s with
      | .nx η2 s2 => forF put f l η2 s2
      | .ct η2 s2 => forF put f l η2 s2
      | .bk η2 s2 => .nx η2 s2
      | r => r) = goK (f η1 s) (forF put f l)
    unfold goK
    generalize f η1 s = r
    cases r <;> rfl
theorem putK_some {k : DL.Env → F} : putK (some η) k = k η := rfl
theorem goK_nx {k : DL.Env → DS → F} : goK (.nx η s) k = k η s := rfl
theorem goK_ct {k : DL.Env → DS → F} : goK (.ct η s) k = k η s := rfl
theorem goK_bk {k : DL.Env → DS → F} : goK (.bk η s) k = .nx η s := rfl
theorem goK_rt {k : DL.Env → DS → F} : goK (.rt d s) k = .rt d s := rfl
theorem goK_ex {k : DL.Env → DS → F} {q : List D} : goK (.ex c q η s) k = .ex c q η s := rfl
/-- a loop, any way out -/
theorem forF_wp {put : D → DL.Env → Option DL.Env} (I : Nat → DL.Env → DS → Prop) (Q : F → Prop) (l : List D) (h0 : I 0 η s) (step : ∀ (i : Nat) (d : D) (η : DL.Env) (s : DS), l[i]? = some d → I i η s → ∃ η1, put d η = some η1 ∧ ((∃ η2 s2, (f η1 s = .nx η2 s2 ∨ f η1 s = .ct η2 s2) ∧ I (i + 1) η2 s2) ∨
    (∃ η2 s2, f η1 s = .bk η2 s2 ∧ Q (.nx η2 s2)) ∨ (∃ d2 s2, f η1 s = .rt d2 s2 ∧ Q (.rt d2 s2)) ∨ ∃ c q η2 s2, f η1 s = .ex c q η2 s2 ∧ Q (.ex c q η2 s2))) (hd : ∀ η s, I l.length η s → Q (.nx η s)) : Q (forF put f l η s) := by
  have key : ∀ (m i : Nat) (η : DL.Env) (s : DS), m = l.length - i → i ≤ l.length → I i η s → Q (forF put f (l.drop i) η s) := by
    intro m
    induction m with
    | zero =>
      intro i η s hm hi h
      have e : i = l.length := by omega
      subst e
      rw [List.drop_length]
      exact hd η s h
    | succ m ih =>
      intro i η s hm hi h
      have hlt : i < l.length := by omega
      rw [List.drop_eq_getElem_cons hlt, forF_cons]
      obtain ⟨η1, e1, h1⟩ := step i l[i] η s (List.getElem?_eq_getElem hlt) h
      rw [e1, putK_some]
      rcases h1 with ⟨η2, s2, e | e, h2⟩ | ⟨η2, s2, e, h2⟩ | ⟨d2, s2, e, h2⟩ | ⟨c, q, η2, s2, e, h2⟩
      · rw [e, goK_nx]; exact ih (i + 1) η2 s2 (by omega) hlt h2
      · rw [e, goK_ct]; exact ih (i + 1) η2 s2 (by omega) hlt h2
      · rw [e, goK_bk]; exact h2
      · rw [e, goK_rt]; exact h2
      · rw [e, goK_ex]; exact h2
  exact key _ 0 η s rfl (Nat.zero_le _) h0
/-- a loop that runs to its end -/
theorem forF_inv {put : D → DL.Env → Option DL.Env} (I : Nat → DL.Env → DS → Prop) (l : List D) (h0 : I 0 η s) (step : ∀ (i : Nat) (d : D) (η : DL.Env) (s : DS), l[i]? = some d → I i η s → ∃ η1, put d η = some η1 ∧ ∃ η2 s2, (f η1 s = .nx η2 s2 ∨ f η1 s = .ct η2 s2) ∧ I (i + 1) η2 s2) :
    ∃ η' s', forF put f l η s = .nx η' s' ∧ I l.length η' s' := by
  refine forF_wp I (fun r => ∃ η' s', r = .nx η' s' ∧ I l.length η' s') l h0 (fun i d η s e h => ?_) fun η s h => ⟨η, s, rfl, h⟩
  obtain ⟨η1, e1, h1⟩ := step i d η s e h
  exact ⟨η1, e1, .inl h1⟩
/-- .. its names a function of the turn -/
theorem forF_fun {put : D → DL.Env → Option DL.Env} (E : Nat → DL.Env) (l : List D) (step : ∀ (i : Nat) (d : D), l[i]? = some d → ∃ η1, put d (E i) = some η1 ∧ f η1 s = .nx (E (i + 1)) s) : forF put f l (E 0) s = .nx (E l.length) s := by
  obtain ⟨η', s', e, h1, h2⟩ := forF_inv (put := put) (f := f) (s := s) (η := E 0) (fun i η s2 => η = E i ∧ s2 = s) l ⟨rfl, rfl⟩ fun i d η s2 e h => by
    obtain ⟨rfl, rfl⟩ := h
    obtain ⟨η1, e1, e2⟩ := step i d e
    exact ⟨η1, e1, _, _, .inl e2, rfl, rfl⟩
  rw [e, h1, h2]
theorem whB_wp (I : DL.Env → DS → Prop) (m : DL.Env → DS → Nat) (Q : F → Prop) (hQ : ¬ Q .bad) (h0 : I η s) (step : ∀ (η : DL.Env) (s : DS), I η s → (∃ s1, ft η s = .ok false s1 ∧ Q (.nx η s1)) ∨ ∃ s1, ft η s = .ok true s1 ∧ ((∃ η2 s2, (f η s1 = .nx η2 s2 ∨ f η s1 = .ct η2 s2) ∧ I η2 s2 ∧ m η2 s2 < m η s) ∨
    (∃ η2 s2, f η s1 = .bk η2 s2 ∧ Q (.nx η2 s2)) ∨ (∃ d2 s2, f η s1 = .rt d2 s2 ∧ Q (.rt d2 s2)) ∨ ∃ c q η2 s2, f η s1 = .ex c q η2 s2 ∧ Q (.ex c q η2 s2))) : Q (whB (whN ft f) ft f η s) := by
  have key : ∀ (k : Nat) (η : DL.Env) (s : DS), m η s < k → I η s → ∃ r, whF ft f k η s = r ∧ Q r := by
    intro k
    induction k with
    | zero => intro η s h; omega
    | succ k ih =>
      intro η s hk h
      rcases step η s h with ⟨s1, e, q⟩ | ⟨s1, e, h1⟩
      · exact ⟨_, by rw [whF, e]; rfl, q⟩
      · rcases h1 with ⟨η2, s2, e2, h2, h3⟩ | ⟨η2, s2, e2, h2⟩ | ⟨d2, s2, e2, h2⟩ | ⟨c, q, η2, s2, e2, h2⟩
        · obtain ⟨r, hr, hq⟩ := ih η2 s2 (by omega) h2
          refine ⟨r, ?_, hq⟩
          rw [whF, e]
          rcases e2 with e2 | e2 <;> · simp only [R.toF, if_true, e2]; exact hr
        · exact ⟨_, by rw [whF, e]; simp only [R.toF, if_true, e2], h2⟩
        · exact ⟨_, by rw [whF, e]; simp only [R.toF, if_true, e2], h2⟩
        · exact ⟨_, by rw [whF, e]; simp only [R.toF, if_true, e2], h2⟩
  obtain ⟨r, hr, hq⟩ := key (m η s + 1) η s (Nat.lt_succ_self _) h0
  rw [whB_eq _ hr (fun z => hQ (by rw [← z]; exact hq))]
  exact hq
/-! ### comprehensions -/
theorem lcD_eq {fi : DL.Env → DS → R (List D)} {put : D → DL.Env → Option DL.Env} {vs : List Nat} : lcD fi put ft fa vs η s = (fi η s).bnd fun ds s1 => if ds.length ≤ 16777216 then (lcF put ft fa (wipeE η vs) ds s1).bnd fun ys s2 => .ok (.lst ys) s2 else .bad := rfl
theorem wipeE_nil : wipeE η [] = η := rfl
theorem wipeE_cons {v : Nat} {vs : List Nat} : wipeE η (v :: vs) = (wipeE η vs).set v .no := rfl
theorem yesT_eq : yesT η s = .ok true s := rfl
/-- a comprehension that changes nothing -/
theorem lcF_pure {γ : Type} {put : D → DL.Env → Option DL.Env} (e : γ → D) (t : γ → Bool) (y : γ → D) : ∀ (l : List γ), (∀ a ∈ l, ∃ η1, put (e a) η = some η1 ∧ ft η1 s = .ok (t a) s ∧ (t a = true → fa η1 s = .ok (y a) s)) → lcF put ft fa η (l.map e) s = .ok ((l.filter t).map y) s
  | [], _ => rfl
  | a :: l, h => by
    obtain ⟨η1, e1, e2, e3⟩ := h a List.mem_cons_self
    have ih := lcF_pure e t y l fun b hb => h b (List.mem_cons_of_mem _ hb)
    rw [List.map_cons, lcF, e1]
    simp only [e2, R.nx, R.bind, ih]
    cases q : t a with
    | false => simp only [Bool.false_eq_true, if_false, List.filter_cons, q]
    | true =>
      rw [e3 q]
      simp only [if_true, List.filter_cons, q, List.map_cons, ih]
theorem lcF_map {γ : Type} {put : D → DL.Env → Option DL.Env} (e : γ → D) (y : γ → D) (l : List γ) (h : ∀ a ∈ l, ∃ η1, put (e a) η = some η1 ∧ fa η1 s = .ok (y a) s) : lcF put yesT fa η (l.map e) s = .ok (l.map y) s := by
  rw [lcF_pure e (fun _ => true) y l fun a ha => by
    obtain ⟨η1, e1, e2⟩ := h a ha
    exact ⟨η1, e1, rfl, fun _ => e2⟩]
  rw [List.filter_eq_self.mpr (fun _ _ => rfl)]
end

/-! ### slices -/
theorem sIx_some {n d : Nat} {v : Int} (h : 0 ≤ v) : HT.sIx n d (some v) = min v.toNat n := if_neg (by omega)
theorem cut_to {l : List D} {k : Int} (h : 0 ≤ k) : cutD l none (some k) = l.take k.toNat := by
  unfold cutD
  rw [sIx_some h, HT.sIx_none, List.drop_zero, Nat.sub_zero]
  rcases Nat.le_total k.toNat l.length with q | q
  · rw [Nat.min_eq_left q]
  · rw [Nat.min_eq_right q, List.take_length, List.take_of_length_le q]
theorem cut_from {l : List D} {k : Int} (h : 0 ≤ k) : cutD l (some k) none = l.drop k.toNat := by
  unfold cutD
  rw [sIx_some h, HT.sIx_none]
  rcases Nat.le_total k.toNat l.length with q | q
  · rw [Nat.min_eq_left q, List.take_of_length_le (by rw [List.length_drop]; exact Nat.le_refl _)]
  · rw [Nat.min_eq_right q, List.drop_length, List.drop_eq_nil_of_le q]; simp
theorem cut_both {l : List D} {j k : Int} (h : 0 ≤ j) (h2 : 0 ≤ k) : cutD l (some j) (some k) = (l.drop j.toNat).take (k.toNat - j.toNat) := by
  unfold cutD
  rw [sIx_some h, sIx_some h2]
  rcases Nat.le_total j.toNat l.length with q | q
  · rw [Nat.min_eq_left q]
    rcases Nat.le_total k.toNat l.length with p | p
    · rw [Nat.min_eq_left p]
    · rw [Nat.min_eq_right p, List.take_of_length_le (by rw [List.length_drop]; exact Nat.le_refl _), List.take_of_length_le (by rw [List.length_drop]; omega)]
  · rw [Nat.min_eq_right q, List.drop_length, List.drop_eq_nil_of_le q]; simp
theorem opCut_l {l : List D} {j k : Option Int} : opCut (.lst l) j k = some (.lst (cutD l j k)) := rfl
theorem opCut_t {l : List D} {j k : Option Int} : opCut (.tup l) j k = some (.tup (cutD l j k)) := rfl
theorem opCut_s {l : List Int} {j k : Option Int} : opCut (.scr l) j k = some (.lst (cutD (l.map D.int) j k)) := rfl
theorem opPow_int {a b : Int} (h : 0 ≤ b ∧ b ≤ 1000 ∧ -1000000 ≤ a ∧ a ≤ 1000000) : opPow (.int a) (.int b) = some (.int (a ^ b.toNat)) := if_pos (cl_yes h)
theorem opAdd_tup {a b : List D} (h : a.length + b.length ≤ 16777216) : opAdd (.tup a) (.tup b) = some (.tup (a ++ b)) := if_pos h
theorem opAdd_lst {a b : List D} (h : a.length + b.length ≤ 16777216) : opAdd (.lst a) (.lst b) = some (.lst (a ++ b)) := if_pos h
/-! ### == -/
mutual
def okN : Nat → D → Bool
  | _, .non => true
  | _, .bl _ => true
  | _, .int _ => true
  | _, .str x => PyData.strOk x
  | n + 1, .tup l => okNL n l
  | n + 1, .lst l => okNL n l
  | _, _ => false
def okNL : Nat → List D → Bool
  | _, [] => true
  | n, d :: l => okN n d && okNL n l
end
mutual
theorem okN_of : ∀ {n : Nat} {d : D}, okN n d = true → dOk d = true ∧ dDep d ≤ n
  | n, .non, _ => by simp [dOk, dDep]
  | n, .bl _, _ => by simp [dOk, dDep]
  | n, .int _, _ => by simp [dOk, dDep]
  | n, .str x, h => by
    have h1 : PyData.strOk x = true := by simpa [okN] using h
    simp [dOk, dDep, h1]
  | n + 1, .tup l, h => by
    obtain ⟨h1, h2⟩ := okNL_of (n := n) (l := l) (by simpa [okN] using h)
    simp [dOk, dDep, h1, h2]
  | n + 1, .lst l, h => by
    obtain ⟨h1, h2⟩ := okNL_of (n := n) (l := l) (by simpa [okN] using h)
    simp [dOk, dDep, h1, h2]
  | 0, .tup l, h => by simp [okN] at h
  | 0, .lst l, h => by simp [okN] at h
  | _, .dic _, h => by simp [okN] at h
  | _, .obj _ _, h => by simp [okN] at h
  | _, .han _, h => by simp [okN] at h
  | _, .scr _, h => by simp [okN] at h
theorem okNL_of : ∀ {n : Nat} {l : List D}, okNL n l = true → dOkL l = true ∧ dDepL l ≤ n
  | n, [], _ => by simp [dOkL, dDepL]
  | n, d :: l, h => by
    have h0 : okN n d = true ∧ okNL n l = true := by simpa [okNL] using h
    obtain ⟨h1, h2⟩ := okN_of h0.1
    obtain ⟨h3, h4⟩ := okNL_of h0.2
    simp [dOkL, dDepL, h1, h2, h3, h4]
    omega
end
theorem okN_eq {x y : D} {n : Nat} (h : okN n x = true) (h2 : okN n y = true) (hn : n ≤ 60) : eqOk x y = true := by
  obtain ⟨a, b⟩ := okN_of h
  obtain ⟨c, d⟩ := okN_of h2
  unfold eqOk
  simp only [a, c, Bool.and_true, Bool.true_and, Bool.and_eq_true, decide_eq_true_eq]
  omega
theorem opEq_ok {x y : D} (h : okN 9 x = true) (h2 : okN 9 y = true) : opEq x y = some (.bl (eqB x y)) := if_pos (okN_eq h h2 (by omega))
theorem opNe_ok {x y : D} (h : okN 9 x = true) (h2 : okN 9 y = true) : opNe x y = some (.bl (!eqB x y)) := if_pos (okN_eq h h2 (by omega))
theorem okNL_iff {n : Nat} : ∀ {l : List D}, okNL n l = true ↔ ∀ d ∈ l, okN n d = true
  | [] => by simp [okNL]
  | d :: l => by simp [okNL, okNL_iff]
theorem okNL_map {γ : Type} {n : Nat} {e : γ → D} {l : List γ} (h : ∀ a ∈ l, okN n (e a) = true) : okNL n (l.map e) = true := okNL_iff.mpr fun d hd => by
  obtain ⟨a, ha, rfl⟩ := List.mem_map.mp hd
  exact h a ha
theorem okNL_mi {γ : Type} {n : Nat} {f : γ → Int} {l : List γ} : okNL n (l.map fun a => D.int (f a)) = true := okNL_map fun _ _ => by simp [okN]
mutual
theorem eqB_self : ∀ {n : Nat} {d : D}, okN n d = true → eqB d d = true
  | n, .non, _ => by simp [eqB]
  | n, .bl _, _ => by simp [eqB]
  | n, .int _, _ => by simp [eqB]
  | n, .str x, h => by simp [eqB]
  | n + 1, .tup l, h => by
    have := eqBL_self (n := n) (l := l) (by simpa [okN] using h)
    simpa [eqB] using this
  | n + 1, .lst l, h => by
    have := eqBL_self (n := n) (l := l) (by simpa [okN] using h)
    simpa [eqB] using this
  | 0, .tup l, h => by simp [okN] at h
  | 0, .lst l, h => by simp [okN] at h
  | _, .dic _, h => by simp [okN] at h
  | _, .obj _ _, h => by simp [okN] at h
  | _, .han _, h => by simp [okN] at h
  | _, .scr _, h => by simp [okN] at h
theorem eqBL_self : ∀ {n : Nat} {l : List D}, okNL n l = true → eqBL l l = true
  | n, [], _ => by simp [eqBL]
  | n, d :: l, h => by
    have h0 : okN n d = true ∧ okNL n l = true := by simpa [okNL] using h
    simp [eqBL, eqB_self h0.1, eqBL_self h0.2]
end
theorem opNe_self {x : D} (h : okN 9 x = true) : opNe x x = some (.bl false) := by
  rw [opNe_ok h h, eqB_self h]
  rfl
theorem opEq_self {x : D} (h : okN 9 x = true) : opEq x x = some (.bl true) := by
  rw [opEq_ok h h, eqB_self h]
theorem opEq_lnil {d : D} {l : List D} (h : okN 9 (.lst (d :: l)) = true) : opEq (.lst (d :: l)) (.lst []) = some (.bl false) := by
  rw [opEq_ok h (by simp [okN, okNL])]
  simp [eqB, eqBL]
theorem opNe_lnil {d : D} {l : List D} (h : okN 9 (.lst (d :: l)) = true) : opNe (.lst (d :: l)) (.lst []) = some (.bl true) := by
  rw [opNe_ok h (by simp [okN, okNL])]
  simp [eqB, eqBL]
theorem opEq_nn : opEq (.lst []) (.lst []) = some (.bl true) := opEq_self (by simp [okN, okNL])
theorem opNe_nn : opNe (.lst []) (.lst []) = some (.bl false) := opNe_self (by simp [okN, okNL])
theorem opNe_is {a : Int} {x : Str} (h : PyData.strOk x = true) : opNe (.int a) (.str x) = some (.bl true) := by
  rw [opNe_ok (by simp [okN]) (by simpa [okN] using h)]
  simp [eqB]
theorem opEq_is {a : Int} {x : Str} (h : PyData.strOk x = true) : opEq (.int a) (.str x) = some (.bl false) := by
  rw [opEq_ok (by simp [okN]) (by simpa [okN] using h)]
  simp [eqB]
theorem opNe_si {a : Int} {x : Str} (h : PyData.strOk x = true) : opNe (.str x) (.int a) = some (.bl true) := by
  rw [opNe_ok (by simpa [okN] using h) (by simp [okN])]
  simp [eqB]
theorem opEq_si {a : Int} {x : Str} (h : PyData.strOk x = true) : opEq (.str x) (.int a) = some (.bl false) := by
  rw [opEq_ok (by simpa [okN] using h) (by simp [okN])]
  simp [eqB]
theorem opNe_ss {x y : Str} (h : PyData.strOk x = true) (h2 : PyData.strOk y = true) : opNe (.str x) (.str y) = some (.bl (!(x == y))) := by
  rw [opNe_ok (by simpa [okN] using h) (by simpa [okN] using h2)]
  simp [eqB]
theorem opEq_ss {x y : Str} (h : PyData.strOk x = true) (h2 : PyData.strOk y = true) : opEq (.str x) (.str y) = some (.bl (x == y)) := by
  rw [opEq_ok (by simpa [okN] using h) (by simpa [okN] using h2)]
  simp [eqB]
theorem opNe_bb {a b : Bool} : opNe (.bl a) (.bl b) = some (.bl (!(a == b))) := by
  rw [opNe_ok (by simp [okN]) (by simp [okN])]
  simp [eqB]
theorem opEq_bb {a b : Bool} : opEq (.bl a) (.bl b) = some (.bl (a == b)) := by
  rw [opEq_ok (by simp [okN]) (by simp [okN])]
  simp [eqB]

section
variable {η : DL.Env} {s : DS} {ft : DL.Env → DS → R Bool} {fe : DL.Env → DS → R D} {put : D → DL.Env → Option DL.Env} {d : D} {ds : List D}
def lcPut (o : Option DL.Env) (k : DL.Env → R (List D)) : R (List D) := match o with
  | some η => k η
  | none => .bad
theorem lcPut_some {k : DL.Env → R (List D)} : lcPut (some η) k = k η := rfl
theorem lcF_nil : lcF put ft fe η [] s = .ok [] s := rfl
theorem lcF_cons : lcF put ft fe η (d :: ds) s = lcPut (put d η) fun η1 => (ft η1 s).nx.bnd fun b s1 => if b = true then (fe η1 s1).nx.bnd fun y s2 => (lcF put ft fe η ds s2).bnd fun ys s3 => .ok (y :: ys) s3 else lcF put ft fe η ds s1 := by
  rw [lcF]
  cases put d η <;> rfl
end
end DL
set_option Elab.async false
set_option linter.all false
set_option maxRecDepth 100000
set_option maxHeartbeats 2000000
namespace DL
open PySem PySem.Spec PyProof.Rows L2
/-! ### names that are no longer asked -/
def keepE : List Bool → Env → Env
  | true :: bs, x :: η => x :: keepE bs η
  | false :: bs, _ :: η => .no :: keepE bs η
  | [], η => η
  | _ :: _, [] => []
theorem keepE_len : ∀ (bs : List Bool) (η : Env), (keepE bs η).length = η.length
  | true :: bs, x :: η => by simp [keepE, keepE_len bs η]
  | false :: bs, x :: η => by simp [keepE, keepE_len bs η]
  | [], η => by cases η <;> rfl
  | true :: _, [] => rfl
  | false :: _, [] => rfl
theorem keepE_get : ∀ {bs : List Bool} {η : Env} {j : Nat} {x : Sl}, (keepE bs η)[j]? = some x → x ≠ .no → η[j]? = some x
  | true :: bs, y :: η, 0, x, h, _ => by simpa [keepE] using h
  | true :: bs, y :: η, j + 1, x, h, n => by
    rw [List.getElem?_cons_succ]
    exact keepE_get (bs := bs) (by simpa [keepE] using h) n
  | false :: bs, y :: η, 0, x, h, n => by
    simp [keepE] at h
    exact absurd h.symm n
  | false :: bs, y :: η, j + 1, x, h, n => by
    rw [List.getElem?_cons_succ]
    exact keepE_get (bs := bs) (by simpa [keepE] using h) n
  | [], η, j, x, h, _ => by
    have e : keepE [] η = η := by cases η <;> rfl
    rw [e] at h
    exact h
  | true :: _, [], j, x, h, _ => by simp [keepE] at h
  | false :: _, [], j, x, h, _ => by simp [keepE] at h
def F.wip (is : List Bool) : F → F
  | .nx η s => .nx (keepE is η) s
  | .bk η s => .bk (keepE is η) s
  | .ct η s => .ct (keepE is η) s
  | r => r
def wipB (is : List Bool) (f : Env → DS → F) : Env → DS → F := fun η s => (f η s).wip is
def preB (is : List Bool) (f : Env → DS → F) : Env → DS → F := fun η s => f (keepE is η) s
section
variable {M : Mp} {X : Cx} {W : WX} {K : PySem.W.Frag}
theorem Sm.forget {A : Anc} {σ : L2.St} {H G : Hp} {hs : List Addr} {own : Nat → Addr} {η : Env} {s : DS} (I : Sm K M A σ H G hs own η s) (vs : List Bool) : Sm K M A σ H G hs own (keepE vs η) s :=
  ⟨I.sim, I.stp, fun i d e => I.pl i d (keepE_get e (fun z => by cases z)), fun i d e => I.ow i d (keepE_get e (fun z => by cases z)),
    fun i j d d' e1 e2 => I.inj i j d d' (keepE_get e1 (fun z => by cases z)) (keepE_get e2 (fun z => by cases z)), by rw [keepE_len]; exact I.el, fun x d ex e => I.sf x d ex (keepE_get e (fun z => by cases z))⟩
theorem FPost.wip {A : Anc} {E : Ends} {is : List Bool} : ∀ {r : F}, FPost K M A W E (r.wip is) → FPost K M A W E r
  | .nx η s, h => fun σ H G hs own I => h σ H G hs own (I.forget is)
  | .bk η s, h => fun σ H G hs own I => h σ H G hs own (I.forget is)
  | .ct η s, h => fun σ H G hs own I => h σ H G hs own (I.forget is)
  | .rt d s, h => h
  | .ex c p η s, h => h
  | .bad, h => h
variable {st : Stmt} {sts : List Stmt} {g : Env → DS → F}
theorem ds_wip (is : List Bool) (h : DSt M X W st g) : DSt M X W st (wipB is g) := by
  obtain ⟨t, p, h⟩ := h.ex
  exact ⟨t, p, fun A σ H G hs own η s E I hp => h A σ H G hs own η s E I hp.wip⟩
theorem dss_wip (is : List Bool) (h : DSs M X W sts g) : DSs M X W sts (wipB is g) := by
  obtain ⟨t, p, h⟩ := h.ex
  exact ⟨t, p, fun A σ H G hs own η s E I hp => h A σ H G hs own η s E I hp.wip⟩
theorem ds_pre (is : List Bool) (h : DSt M X W st g) : DSt M X W st (preB is g) := by
  obtain ⟨t, p, h⟩ := h.ex
  exact ⟨t, p, fun A σ H G hs own η s E I hp => h A σ H G hs own _ s E (I.forget is) hp⟩
def forW (bs : List Bool) (fi : Env → DS → R (List D)) (put : D → Env → Option Env) (body : Env → DS → F) : Env → DS → F := fun η s => (fi η s).toF η fun ds s1 => forF put body ds (keepE bs η) s1
theorem ds_forW {tg e : Expr} (bs : List Bool) {body : List Stmt} {fi : Env → DS → R (List D)} {put : D → Env → Option Env} {g : Env → DS → F} {is : List Nat} {pos : Pos} (hp : PassesOwn (model X.prog X.w) X.A X.env X.xe) (hc : X.calm = true) (hi : DI M X W tg e fi) (hg : DG M X tg put is) (hb : DSs M X W body g)
    (hs : ∀ x, foldedSetIterable e X.env x = pure x := by intro _; rfl) : DSt M X W (.For tg e body [] pos) (forW bs fi put g) := by
  obtain ⟨wi, pi, ki⟩ := hi.ex
  obtain ⟨tgt, pg, kg⟩ := hg.ex
  obtain ⟨tb, pb, kb⟩ := hb.ex
  refine ⟨_, ps_for hp hc pi pg pb hs, fun A σ H G hs own η s E I hp => ?_⟩
  refine ki A σ H G hs own η s _ I ((hp.lift I).mono fun ds G1 hs1 s1 H1 S1 J1 h1 J hJ => ?_)
  obtain ⟨A', rfl, rfl, le, I1⟩ := ((I.step S1 J1).forget bs).anew
  refine ⟨fun i m σ H => ∃ G hs own η s, Sm X.K M A' σ H G hs own η s ∧ m = ds.length - i ∧ i ≤ ds.length ∧ FPost X.K M A' W E (forF put g (ds.drop i) η s), ⟨ds.length, _, _, own, keepE bs η, s1, I1, rfl, Nat.zero_le _, le.post h1⟩, ?_⟩
  rintro i m σ2 H2 ⟨G2, hs2, own2, η2, s2, I2, rfl, hil, h2⟩
  obtain ⟨stop, go⟩ := hJ G2 hs2 s2 H2 I2.stp.gg I2.stp.hp I2.sim i
  cases q : ds[i]? with
  | none =>
    have hn : ds.drop i = [] := List.drop_eq_nil_of_le (List.getElem?_eq_none_iff.mp q)
    rw [hn] at h2
    exact .inl ⟨stop q, h2 σ2 H2 G2 hs2 own2 I2⟩
  | some d =>
    have hlt : i < ds.length := (List.getElem?_eq_some_iff.mp q).1
    obtain ⟨go1, go2⟩ := go d q
    have hd : ds.drop i = d :: ds.drop (i + 1) := by
      rw [List.drop_eq_getElem_cons hlt]
      congr 1
      rw [List.getElem?_eq_getElem hlt] at q
      exact Option.some.inj q
    rw [hd, forF] at h2
    refine .inr ⟨go1, fun σ' H' => ∃ G hs own η s, Sm X.K M A' σ' H' G hs own η s ∧ FPost X.K M A' W E (forF put g (ds.drop (i + 1)) η s), fun σ' H' ⟨G, hs, own, η, s, a, b⟩ => ⟨ds.length - (i + 1), by omega, G, hs, own, η, s, a, rfl, hlt, b⟩, fun x H' y => ?_⟩
    obtain ⟨G3, S3, J3, hx⟩ := go2 x H' y
    have I3 := I2.step S3 J3
    split at h2
    · exact h2.elim
    · rename_i η3 e3
      refine kg A' σ2 H' G3 hs2 own2 η2 η3 s2 d x _ I3 hx e3 fun σ4 I4 _ => ?_
      refine kb A' σ4 H' G3 hs2 own2 η3 s2 _ I4 ?_
      cases r : g η3 s2 with
      | nx η5 s5 => rw [r] at h2; exact fun σ H G hs own I => ⟨G, hs, own, η5, s5, I, h2⟩
      | ct η5 s5 => rw [r] at h2; exact fun σ H G hs own I => ⟨G, hs, own, η5, s5, I, h2⟩
      | bk η5 s5 => rw [r] at h2; exact h2
      | rt d s5 => rw [r] at h2; exact h2
      | ex c p η5 s5 => rw [r] at h2; exact h2
      | bad => rw [r] at h2; exact h2
end
/-! ### for simp -/
section
variable {η : DL.Env} {s : DS} {f : DL.Env → DS → F} {is : List Bool} {c : Nat} {p : List D} {d : D}
theorem wipB_eq : wipB is f η s = (f η s).wip is := rfl
theorem forW_eq {bs : List Bool} {fi : DL.Env → DS → R (List D)} {put : D → DL.Env → Option DL.Env} : forW bs fi put f η s = (fi η s).toF η fun ds s1 => forF put f ds (keepE bs η) s1 := rfl
theorem preB_eq : preB is f η s = f (keepE is η) s := rfl
theorem wip_nx : (F.nx η s).wip is = .nx (keepE is η) s := rfl
theorem wip_bk : (F.bk η s).wip is = .bk (keepE is η) s := rfl
theorem wip_ct : (F.ct η s).wip is = .ct (keepE is η) s := rfl
theorem wip_rt : (F.rt d s).wip is = .rt d s := rfl
theorem wip_ex : (F.ex c p η s).wip is = .ex c p η s := rfl
theorem keep_t {b : Sl} {bs : List Bool} : keepE (true :: bs) (b :: η) = b :: keepE bs η := rfl
theorem keep_f {b : Sl} {bs : List Bool} : keepE (false :: bs) (b :: η) = .no :: keepE bs η := rfl
theorem keep_n : keepE [] η = η := by cases η <;> rfl
theorem wip_bad : F.bad.wip is = .bad := rfl
end
/-! ### loops, as functions -/
section
variable {γ τ : Type} {η : DL.Env} {s : DS} {f : DL.Env → DS → F} {ft : DL.Env → DS → R Bool} {put : D → DL.Env → Option DL.Env}
/-- one turn, whatever it says -/
def turnF (put : D → DL.Env → Option DL.Env) (f : DL.Env → DS → F) (d : D) (η : DL.Env) (s : DS) : F := putK (put d η) fun η1 => f η1 s
theorem turnF_eq {d : D} : turnF put f d η s = putK (put d η) fun η1 => f η1 s := rfl
theorem forF_cons2 {d : D} {l : List D} : forF put f (d :: l) η s = goK (turnF put f d η s) (forF put f l) := by
  rw [forF_cons]
  unfold turnF
  cases put d η <;> rfl
/-- the names a function of what is kept -/
theorem forF_fold (E : τ → DL.Env) (S : τ → DS) (e : γ → D) (st : τ → γ → τ) (P : τ → Prop) : ∀ (l : List γ) (x : τ), P x → (∀ a ∈ l, ∀ x, P x → turnF put f (e a) (E x) (S x) = .nx (E (st x a)) (S (st x a)) ∧ P (st x a)) →
    forF put f (l.map e) (E x) (S x) = .nx (E (l.foldl st x)) (S (l.foldl st x)) ∧ P (l.foldl st x)
  | [], x, h, _ => ⟨rfl, h⟩
  | a :: l, x, h, k => by
    obtain ⟨h1, h2⟩ := k a List.mem_cons_self x h
    rw [List.map_cons, forF_cons2, h1, goK_nx]
    exact forF_fold E S e st P l (st x a) h2 fun b hb => k b (List.mem_cons_of_mem _ hb)
/-- .. with what stood before -/
theorem forF_foldI (E : τ → DL.Env) (S : τ → DS) (e : γ → D) (st : τ → γ → τ) (P : List γ → τ → Prop) (l : List γ) (x : τ) (h0 : P [] x) (k : ∀ (pre : List γ) (a : γ) (post : List γ) (x : τ), l = pre ++ a :: post → P pre x → turnF put f (e a) (E x) (S x) = .nx (E (st x a)) (S (st x a)) ∧ P (pre ++ [a]) (st x a)) :
    forF put f (l.map e) (E x) (S x) = .nx (E (l.foldl st x)) (S (l.foldl st x)) ∧ P l (l.foldl st x) := by
  have key : ∀ (post pre : List γ) (x : τ), l = pre ++ post → P pre x → forF put f (post.map e) (E x) (S x) = .nx (E (post.foldl st x)) (S (post.foldl st x)) ∧ P l (post.foldl st x) := by
    intro post
    induction post with
    | nil =>
      intro pre x hl h
      rw [List.append_nil] at hl
      subst hl
      exact ⟨rfl, h⟩
    | cons a post ih =>
      intro pre x hl h
      obtain ⟨h1, h2⟩ := k pre a post x hl h
      rw [List.map_cons, forF_cons2, h1, goK_nx]
      exact ih (pre ++ [a]) (st x a) (by rw [hl]; simp) h2
  exact key l [] x rfl h0
/-- the state a relation -/
theorem forF_rel (I : List γ → DL.Env → DS → Prop) (e : γ → D) (l : List γ) (h0 : I [] η s) (k : ∀ (pre : List γ) (a : γ) (post : List γ) (η : DL.Env) (s : DS), l = pre ++ a :: post → I pre η s → ∃ η2 s2, turnF put f (e a) η s = .nx η2 s2 ∧ I (pre ++ [a]) η2 s2) :
    ∃ η2 s2, forF put f (l.map e) η s = .nx η2 s2 ∧ I l η2 s2 := by
  have key : ∀ (post pre : List γ) (η : DL.Env) (s : DS), l = pre ++ post → I pre η s → ∃ η2 s2, forF put f (post.map e) η s = .nx η2 s2 ∧ I l η2 s2 := by
    intro post
    induction post with
    | nil =>
      intro pre η s hl h
      rw [List.append_nil] at hl
      subst hl
      exact ⟨η, s, rfl, h⟩
    | cons a post ih =>
      intro pre η s hl h
      obtain ⟨η2, s2, h1, h2⟩ := k pre a post η s hl h
      rw [List.map_cons, forF_cons2, h1, goK_nx]
      exact ih (pre ++ [a]) η2 s2 (by rw [hl]; simp) h2
  exact key l [] η s rfl h0
/-- a search: the turn leaves everything, or hands back -/
theorem forF_find (e : γ → D) (c : γ → Bool) (y : γ → F) (hy : ∀ a, ∀ k, goK (y a) k = y a) : ∀ (l : List γ), (∀ a ∈ l, turnF put f (e a) η s = if c a = true then y a else .nx η s) → forF put f (l.map e) η s = match l.find? c with | some a => y a | none => .nx η s
  | [], _ => rfl
  | a :: l, h => by
    rw [List.map_cons, forF_cons2, h a List.mem_cons_self, List.find?_cons]
    cases q : c a with
    | true => simp only [if_true]; exact hy a _
    | false =>
      simp only [Bool.false_eq_true, if_false, goK_nx]
      exact forF_find e c y hy l fun b hb => h b (List.mem_cons_of_mem _ hb)
/-- a while as a function: n turns -/
def whRun (c : τ → Bool) (st : τ → τ) : Nat → τ → τ
  | 0, x => x
  | n + 1, x => if c x = true then whRun c st n (st x) else x
theorem whB_fun (E : τ → DL.Env) (S : τ → DS) (c : τ → Bool) (st : τ → τ) (P : τ → Prop) (m : τ → Nat) (x : τ) (n : Nat) (h0 : P x) (hn : m x ≤ n) (k : ∀ x, P x → ft (E x) (S x) = .ok (c x) (S x) ∧ (c x = true → f (E x) (S x) = .nx (E (st x)) (S (st x)) ∧ P (st x) ∧ m (st x) < m x)) :
    whB (whN ft f) ft f (E x) (S x) = .nx (E (whRun c st n x)) (S (whRun c st n x)) ∧ P (whRun c st n x) ∧ c (whRun c st n x) = false := by
  have key : ∀ (n : Nat) (x : τ), P x → m x ≤ n → ∃ k, whF ft f k (E x) (S x) = .nx (E (whRun c st n x)) (S (whRun c st n x)) ∧ P (whRun c st n x) ∧ c (whRun c st n x) = false := by
    intro n
    induction n with
    | zero =>
      intro x h hm
      obtain ⟨h1, h2⟩ := k x h
      have hc : c x = false := by
        cases q : c x with
        | false => rfl
        | true => have := (h2 q).2.2; omega
      refine ⟨1, ?_, h, hc⟩
      rw [whF, h1, hc]
      rfl
    | succ n ih =>
      intro x h hm
      obtain ⟨h1, h2⟩ := k x h
      cases q : c x with
      | false =>
        refine ⟨1, ?_, ?_, ?_⟩
        · rw [whF, h1, q]; simp only [whRun, q]; rfl
        · simp only [whRun, q]; exact h
        · simp only [whRun, q]; exact q
      | true =>
        obtain ⟨h3, h4, h5⟩ := h2 q
        obtain ⟨j, hj⟩ := ih (st x) h4 (by omega)
        refine ⟨j + 1, ?_, ?_, ?_⟩
        · rw [whF, h1, q]; simp only [R.toF, if_true, h3, whRun, q]; exact hj.1
        · simp only [whRun, q, if_true]; exact hj.2.1
        · simp only [whRun, q, if_true]; exact hj.2.2
  obtain ⟨j, hj⟩ := key n x h0 hn
  refine ⟨?_, hj.2⟩
  exact whB_eq _ hj.1 (by intro z; cases z)
end
/-! ### for simp, more -/
section
variable {η : DL.Env} {s : DS} {d : D} {i : Nat}
def asgO (o : Option DL.Env) (s : DS) : F := match o with
  | some η => .nx η s
  | none => .bad
theorem asgO_s : asgO (some η) s = .nx η s := rfl
theorem asgK_eq {f : D → DL.Env → Option DL.Env} : asgK f η d s = asgO (f d η) s := by
  unfold asgK asgO
  generalize f d η = o
  cases o <;> rfl
theorem asgFK_eq {is : List Nat} {l : List Sl} : asgFK is η l s = asgO (putS is l η) s := by
  unfold asgFK asgO
  generalize putS is l η = o
  cases o <;> rfl
theorem putS_nil : putS [] [] η = some η := rfl
theorem putS_v {is : List Nat} {l : List Sl} : putS (i :: is) (.v d :: l) η = if i < η.length then putS is l (η.set i (.v d)) else none := by rw [putS]
theorem putS_o {is : List Nat} {l : List Sl} : putS (i :: is) (.o d :: l) η = if 0 < i ∧ i < η.length then putS is l (η.set i (.o d)) else none := by rw [putS]
theorem forB_of {fi : DL.Env → DS → R (List D)} {put : D → DL.Env → Option DL.Env} {f : DL.Env → DS → F} {ds : List D} {s1 : DS} (h : fi η s = .ok ds s1) : forB fi put f η s = forF put f ds η s1 := by
  rw [forB_eq, h]
  rfl
end
end DL
set_option Elab.async false
set_option linter.all false
set_option maxRecDepth 100000
set_option maxHeartbeats 2000000
namespace DL
open PySem PySem.Spec PyProof.Rows L2
/-! ### shapes of data -/
inductive Sh where
  | int | bl | str | tup (l : List Sh) | row (s : Sh) | lst (s : Sh)
mutual
def D.has : D → Sh → Bool
  | .int _, .int => true
  | .bl _, .bl => true
  | .str x, .str => PyData.strOk x
  | .tup ds, .tup ss => hasL ds ss
  | .tup ds, .row s => hasA ds s
  | .lst ds, .lst s => hasA ds s
  | _, _ => false
def hasL : List D → List Sh → Bool
  | [], [] => true
  | d :: ds, s :: ss => D.has d s && hasL ds ss
  | _, _ => false
def hasA : List D → Sh → Bool
  | [], _ => true
  | d :: ds, s => D.has d s && hasA ds s
end
mutual
theorem has_alike : ∀ (d e : D) (s : Sh), d.has s = true → e.has s = true → alikeD d e = true
  | .int _, e, s, h, g => by
    cases s <;> simp_all [D.has]
    cases e <;> simp_all [D.has, alikeD, toPD, PySem.W.alike]
  | .bl _, e, s, h, g => by
    cases s <;> simp_all [D.has]
    cases e <;> simp_all [D.has, alikeD, toPD, PySem.W.alike]
  | .str _, e, s, h, g => by
    cases s <;> simp_all [D.has]
    cases e <;> simp_all [D.has, alikeD, toPD, PySem.W.alike]
  | .tup ds, e, s, h, g => by
    cases s with
    | tup ss =>
      cases e with
      | tup es =>
        have := hasL_alike ds es ss (by simpa [D.has] using h) (by simpa [D.has] using g)
        simpa [alikeD, toPD, PySem.W.alike] using this
      | _ => simp_all [D.has]
    | row s =>
      cases e with
      | tup es =>
        have := hasA_alike ds es s (by simpa [D.has] using h) (by simpa [D.has] using g)
        simpa [alikeD, toPD, PySem.W.alike] using this
      | _ => simp_all [D.has]
    | _ => simp_all [D.has]
  | .lst ds, e, s, h, g => by
    cases s with
    | lst s =>
      cases e with
      | lst es =>
        have := hasA_alike ds es s (by simpa [D.has] using h) (by simpa [D.has] using g)
        simpa [alikeD, toPD, PySem.W.alike] using this
      | _ => simp_all [D.has]
    | _ => simp_all [D.has]
  | .non, _, s, h, _ => by cases s <;> simp_all [D.has]
  | .dic _, _, s, h, _ => by cases s <;> simp_all [D.has]
  | .obj _ _, _, s, h, _ => by cases s <;> simp_all [D.has]
  | .han _, _, s, h, _ => by cases s <;> simp_all [D.has]
  | .scr _, _, s, h, _ => by cases s <;> simp_all [D.has]
theorem hasL_alike : ∀ (d e : List D) (s : List Sh), hasL d s = true → hasL e s = true → PySem.W.alikeAll (toPDL d) (toPDL e) = true
  | [], e, s, _, _ => by cases e <;> simp [toPDL, PySem.W.alikeAll]
  | d :: ds, e, s, h, g => by
    cases s with
    | nil => simp_all [hasL]
    | cons s ss =>
      cases e with
      | nil => simp_all [hasL]
      | cons e es =>
        have h1 : d.has s = true ∧ hasL ds ss = true := by simpa [hasL] using h
        have g1 : e.has s = true ∧ hasL es ss = true := by simpa [hasL] using g
        have a := has_alike d e s h1.1 g1.1
        have b := hasL_alike ds es ss h1.2 g1.2
        unfold alikeD at a
        simp [toPDL, PySem.W.alikeAll, a, b]
theorem hasA_alike : ∀ (d e : List D) (s : Sh), hasA d s = true → hasA e s = true → PySem.W.alikeAll (toPDL d) (toPDL e) = true
  | [], e, s, _, _ => by cases e <;> simp [toPDL, PySem.W.alikeAll]
  | d :: ds, e, s, h, g => by
    cases e with
    | nil => simp [toPDL, PySem.W.alikeAll]
    | cons e es =>
      have h1 : d.has s = true ∧ hasA ds s = true := by simpa [hasA] using h
      have g1 : e.has s = true ∧ hasA es s = true := by simpa [hasA] using g
      have a := has_alike d e s h1.1 g1.1
      have b := hasA_alike ds es s h1.2 g1.2
      unfold alikeD at a
      simp [toPDL, PySem.W.alikeAll, a, b]
end
theorem hasA_iff {s : Sh} : ∀ {l : List D}, hasA l s = true ↔ ∀ d ∈ l, d.has s = true
  | [] => by simp [hasA]
  | d :: l => by simp [hasA, hasA_iff]
theorem likeAll_sh {l : List D} (s : Sh) (h : ∀ d ∈ l, okN 9 d = true ∧ d.has s = true) : likeAll l = true := by
  obtain ⟨h1, h2⟩ := okNL_of (n := 9) (l := l) (okNL_iff.mpr fun d hd => (h d hd).1)
  unfold likeAll
  simp only [Bool.and_eq_true, decide_eq_true_eq, List.all_eq_true]
  refine ⟨⟨⟨h1, by omega⟩, fun x hx y hy => has_alike x y s (h x hx).2 (h y hy).2⟩, fun x hx => ?_⟩
  have := (h x hx).2
  cases x <;> simp_all [D.has]
theorem minO_sh {d : D} {l : List D} (s : Sh) (h : ∀ x ∈ d :: l, okN 9 x = true ∧ x.has s = true) : minO [.lst (d :: l)] = some (minF d l) := if_pos (likeAll_sh s h)
theorem maxO_sh {d : D} {l : List D} (s : Sh) (h : ∀ x ∈ d :: l, okN 9 x = true ∧ x.has s = true) : maxO [.lst (d :: l)] = some (maxF d l) := if_pos (likeAll_sh s h)
/-! ### order of data -/
theorem ltD_int {a b : Int} : ltD (.int a) (.int b) = decide (a < b) := PySem.W.dataLt_int a b
theorem ltD_str {a b : Str} : ltD (.str a) (.str b) = decide (a.cps.toList < b.cps.toList) := PySem.W.dataLt_str a b
theorem ltD_tnil {ds : List D} : ltD (.tup []) (.tup ds) = !ds.isEmpty := by
  unfold ltD
  rw [toPD, toPD, PySem.W.dataLt_tuple]
  cases ds with
  | nil =>
    simp only [toPDL, PySem.W.keyToksAll, PyProof.Rows.lexLt, itemOrd, PyProof.Rows.itemLt]
    simp
  | cons d ds =>
    simp only [toPDL, PySem.W.keyToksAll, PyProof.Rows.lexLt, itemOrd, PyProof.Rows.itemLt]
    simp
theorem ltD_tcn {d : D} {ds : List D} : ltD (.tup (d :: ds)) (.tup []) = false := by
  unfold ltD
  rw [toPD, toPD, PySem.W.dataLt_tuple]
  simp only [toPDL, PySem.W.keyToksAll, PyProof.Rows.lexLt, itemOrd, PyProof.Rows.itemLt]
  simp
theorem ltD_tcons {d e : D} {ds es : List D} (h : alikeD d e = true) : ltD (.tup (d :: ds)) (.tup (e :: es)) = if PyData.eqv (toPD d) (toPD e) = true then ltD (.tup ds) (.tup es) else ltD d e := by
  unfold ltD
  simp only [toPD, PySem.W.dataLt_tuple, toPDL]
  split
  · rename_i q
    rw [PySem.W.dataLt_all_yes h q]
  · rename_i q
    rw [PySem.W.dataLt_all_no h (by simpa using q)]
theorem ltD_tint {a b : Int} {ds es : List D} : ltD (.tup (.int a :: ds)) (.tup (.int b :: es)) = if a = b then ltD (.tup ds) (.tup es) else decide (a < b) := by
  rw [ltD_tcons (by simp [alikeD, toPD, PySem.W.alike]), ltD_int]
  simp [toPD, PyData.eqv]
/-! ### loops that gather -/
section
variable {γ : Type} {η : DL.Env} {s : DS} {f : DL.Env → DS → F} {put : D → DL.Env → Option DL.Env}
theorem forF_app (E : List D → DL.Env) (e : γ → D) (y : γ → List D) (m : Nat) : ∀ (l : List γ) (rows : List D), (∀ a ∈ l, (y a).length ≤ m) → rows.length + l.length * m ≤ 16000000 → (∀ a ∈ l, ∀ rows : List D, rows.length + m ≤ 16000000 → turnF put f (e a) (E rows) s = .nx (E (rows ++ y a)) s) →
    forF put f (l.map e) (E rows) s = .nx (E (rows ++ l.flatMap y)) s
  | [], rows, _, _, _ => by simp [forF_nil]
  | a :: l, rows, hy, hl, h => by
    have ha := hy a List.mem_cons_self
    have e1 : (l.length + 1) * m = l.length * m + m := Nat.succ_mul _ _
    rw [List.length_cons, e1] at hl
    rw [List.map_cons, forF_cons2, h a List.mem_cons_self rows (by omega), goK_nx]
    rw [forF_app E e y m l (rows ++ y a) (fun b hb => hy b (List.mem_cons_of_mem _ hb)) (by rw [List.length_append]; omega) fun b hb => h b (List.mem_cons_of_mem _ hb)]
    rw [List.flatMap_cons, List.append_assoc]
end
/-! ### a helper of the law that says True -/
def Tru (r : F) : Prop := ∃ s', fnK r = .ok (.bl true) s'
section
variable {η η' : DL.Env} {s s' : DS} {f g : DL.Env → DS → F} {n : Nat} {l : List D}
theorem Tru.of (h : Tru (f (padE n (l.map .v)) s)) : ∃ s', fnD n f l s = .ok (.bl true) s' := h
theorem Tru.skip (h : f η s = .nx η s) (k : Tru (g η s)) : Tru ((f η s).then g) := by rw [h]; exact k
theorem Tru.step (h : f η s = .nx η' s') (k : Tru (g η' s')) : Tru ((f η s).then g) := by rw [h]; exact k
theorem Tru.end_ : Tru (.rt (.bl true) s) := ⟨_, rfl⟩
end
/-! ### the first that .. -/
theorem filter_none {p : Nat → Bool} {n : Nat} (h : ∀ i, i < n → p i = false) : (List.range n).filter p = [] := by
  rw [List.filter_eq_nil_iff]
  intro i hi
  rw [h i (List.mem_range.mp hi)]
  exact Bool.false_ne_true
theorem filter_first {p : Nat → Bool} {n : Nat} (q : Nat) (hq : q < n) (hp : p q = true) (h : ∀ i, i < q → p i = false) : ∃ l, (List.range n).filter p = q :: l := by
  obtain ⟨m, rfl⟩ : ∃ m, n = q + (m + 1) := ⟨n - q - 1, by omega⟩
  rw [List.range_add, List.filter_append, filter_none h, List.nil_append, List.range_succ_eq_map, List.map_cons, List.filter_cons]
  rw [Nat.add_zero, hp]
  exact ⟨_, rfl⟩
theorem div_le {a e : Int} (h : 0 < e) : a / e * e ≤ a := Int.ediv_mul_le a (by omega)
theorem div_lt {a e : Int} (h : 0 < e) : a < (a / e + 1) * e := Int.lt_ediv_add_one_mul_self a h
theorem ceil_le {a e : Int} (h : 0 < e) : a ≤ (0 - (0 - a) / e) * e := by
  have h1 := div_le (a := 0 - a) h
  have h2 : (0 - (0 - a) / e) * e = 0 - (0 - a) / e * e := by rw [Int.sub_mul, Int.zero_mul]
  omega
theorem ceil_lt {a e : Int} (h : 0 < e) : (0 - (0 - a) / e - 1) * e < a := by
  have h1 := div_lt (a := 0 - a) h
  have h2 : (0 - (0 - a) / e - 1) * e = 0 - ((0 - a) / e + 1) * e := by
    rw [← Int.zero_mul e, ← Int.sub_mul, Int.zero_mul]
    congr 1
    omega
  omega
theorem mul_le_of {a b e : Int} (h : a ≤ b) (he : 0 ≤ e) : a * e ≤ b * e := Int.mul_le_mul_of_nonneg_right h he
/-! ### a turn of the law -/
def Nxt (m : List Bool) (E : DL.Env) (r : F) : Prop := ∃ s', r.wip m = .nx E s'
section
variable {η η' E : DL.Env} {s s' : DS} {f g : DL.Env → DS → F} {m : List Bool}
theorem Nxt.skip (h : f η s = .nx η s) (k : Nxt m E (g η s)) : Nxt m E ((f η s).then g) := by rw [h]; exact k
theorem Nxt.step (h : f η s = .nx η' s') (k : Nxt m E (g η' s')) : Nxt m E ((f η s).then g) := by rw [h]; exact k
theorem Nxt.last (h : f η s = .nx η' s') (k : Nxt m E (.nx η' s')) : Nxt m E (f η s) := by rw [h]; exact k
theorem Nxt.end_ (h : keepE m η = E) : Nxt m E (.nx η s) := ⟨s, by rw [wip_nx, h]⟩
end
end DL
set_option Elab.async false
set_option linter.all false
set_option maxRecDepth 100000
set_option maxHeartbeats 2000000
namespace DL
open PySem PySem.Spec PyProof.Rows L2

/-! ### the frame of a generator expression -/
theorem over_comp {A : Around} {elt tg iter : Expr} {ifs : List Expr} {scope : Scope} {pos : Pos} {it acc : Value} {env : PySem.Env} : A.over (.compLoop (.GeneratorExp elt [⟨tg, iter, ifs, 0⟩] scope pos) 0 it acc env) [] = A.deeper env := rfl
abbrev gEnv (X : Cx) (scope : Scope) (C : Addr) (code : Value) : PySem.Env := genEnv scope (cloFrom X.env.cells scope.names []) C code builtinsNs X.env
abbrev GC (X : Cx) (A : Around) (s : Shared) (H : Hp) (scope : Scope) (C : Addr) (code : Value) (fp : List Addr) : Cx :=
  { X with A := A.deeper (gEnv X scope C code), s_0 := s, H_0 := H, env := gEnv X scope C code, outer := X.stack, stack := gEnv X scope C code :: X.stack, ex := fp, fn := fun _ => false, pn := [], xe := fun _ _ => False }
/-- the names of its frame: no cells of its own -/
def genC (N : List Str) (sc scope : Scope) (own : List (Str × Nat)) : Bool := blkC N sc scope own && scope.names.all (fun y => y.2 != .cell) && (scope.isCoroutine == false) && (scope.names.lookup (".0" : Str) == some NameKind.local)
section
variable {X : Cx} {pins : List (Addr × Obj)} {σ : L2.St} {H : Hp} {s : Shared}
theorem gen_start {A : Around} {scope : Scope} {own : List (Str × Nat)} {fp : List Addr} {code : Value} {h1 : Heap} {tk : Nat} {g' : Array GenState} {m0 : Str → Option Value} (I : Inv X pins σ H s) (ok : BlkOk X.N X.env.scope scope own) (hno : ∀ y ∈ scope.names, y.2 ≠ .cell) (hN : X.N.Nodup)
    (hfp : ∀ b ∈ fp, FpOk X pins H b ∧ b < s.heap.objs.size) (hA : A.handled = none) (hF : A.frames = some X.stack) (hns : h1.Ns s.heap.objs.size m0) (kp : ∀ b o, s.heap.get? b = some o → h1.get? b = some o) (hg : AllBare g') :
    Inv (GC X A s H scope s.heap.objs.size code fp) [] (wipe σ (own.map (·.2))) H { s with heap := h1, gens := g', toks := tk } := by
  have hfree : ∀ y ∈ scope.names, y.2 = .free → ∃ c, X.env.cells.lookup y.1 = some c := fun y hy e => by
    rcases ok.free y hy e with k | k
    · exact I.ok.has _ (.inl k)
    · exact I.ok.has _ (.inr k)
  have cm : ∀ {y c}, (cloFrom X.env.cells scope.names []).lookup y = some c → X.env.cells.lookup y = some c ∧ c < s.heap.objs.size := fun {y c} e => by
    rcases cloFrom_mem (PySem.mem_of_lookup e) with hm | ⟨q1, q2⟩
    · cases hm
    · obtain ⟨c', hc⟩ := hfree _ q1 rfl
      have hc' : X.env.cells.lookup y = some c' := hc
      have e2 : c = c' := by
        have q3 : c = (X.env.cells.lookup y).getD 0 := q2
        rw [q3, hc']
        rfl
      obtain ⟨u, z⟩ := I.cell _ _ hc'
      rw [e2]
      exact ⟨hc', z.lt⟩
  have look : ∀ {y}, scope.names.lookup y = some .free → ∃ c, (cloFrom X.env.cells scope.names []).lookup y = some c := fun {y} hl => by
    have hy : (y, NameKind.free) ∈ scope.names := PySem.mem_of_lookup hl
    exact mem_lookup (cloFrom_has (cells := X.env.cells) (acc := []) hy)
  refine ⟨⟨I.ok.mod, ok.kind, I.ok.glob, rfl, Nat.le_refl _, fun y z c e1 e2 => I.ok.inj y z c (cm e1).1 (cm e2).1, fun y hy => ?_, fun y c z _ => (by cases z), fun _ => hA, Around.frames_deeper hF, .inr ⟨rfl, rfl⟩, fun b hb => ⟨Nat.ne_of_lt (hfp b hb).2, fun y c e z => (hfp b hb).1.2.2.2.2.1 y c (cm e).1 z⟩,
    I.bs, Nat.le_trans I.ok.bsz I.sz, fun b o e hb => ?_, fun b hb z => ?_, I.stack, I.stkFree⟩, rfl, hg, Un.kept kp, ⟨_, hns, fun i y v e1 e2 e3 => ?_⟩, fun y c e => ?_, I.hok.fresh (Nat.le_refl _), fun y c e => I.freeC y c (cm e).1, fun p hp => absurd (show p ∈ ([] : List (Addr × Obj)) ++ [] from hp) (by simp), I.hok.kept kp, by rw [wipe_length]; exact I.len⟩
  · rcases hy with k | k
    · have k : scope.names.lookup y = some .cell := k
      exact absurd rfl (hno _ (PySem.mem_of_lookup k))
    · exact look k
  · rcases (hfp b hb).1.2.2.2.1 with z | z
    · exact I.ok.noex b o e z
    · exact absurd (Nat.lt_of_lt_of_le (Heap.lt_size e) (Nat.le_trans I.ok.bsz z)) (Nat.lt_irrefl _)
  · rcases List.mem_cons.mp (I.stkSub b z) with q | q
    · exact (hfp b hb).1.2.1 q
    · exact (hfp b hb).1.2.2.1 q
  · obtain ⟨e2, hne⟩ := wipe_some e2
    have hfr : scope.names.lookup y = some .free := by
      have no : ∀ k, scope.names.lookup y = some k → ¬ (k = .local ∨ k = .cell) := fun k e hh => by
        rcases ok.own _ (PySem.mem_of_lookup e) hh with q | q
        · obtain ⟨p, hp, hpy⟩ := List.mem_map.mp q
          have e3 := ok.ix p hp
          have q3 : p.1 = y := hpy
          rw [q3] at e3
          exact hne (List.mem_map.mpr ⟨p, hp, nodup_ix hN e3 e1⟩)
        · exact q (List.mem_of_getElem? e1)
      have e3 : Vis scope y := e3
      rcases e3 with k | k | k
      · exact absurd (.inl rfl) (no _ k)
      · exact absurd (.inr rfl) (no _ k)
      · exact k
    obtain ⟨m, hn, hl⟩ := I.loc
    have hvis : Vis X.env.scope y := (ok.free _ (PySem.mem_of_lookup hfr) rfl).elim (fun k => .inr (.inl k)) (fun k => .inr (.inr k))
    obtain ⟨w, r, q⟩ := hl i y v e1 e2 hvis
    obtain ⟨c, h2⟩ := look hfr
    refine ⟨w, r, .inr ⟨.inr hfr, c, h2, ?_⟩⟩
    rcases q with ⟨k, _⟩ | ⟨_, c', e', z⟩
    · have k : X.env.scope.names.lookup y = some .local := k
      rcases ok.free _ (PySem.mem_of_lookup hfr) rfl with k' | k' <;> rw [show X.env.scope.names.lookup y = _ from k'] at k <;> cases k
    · rw [(cm h2).1] at e'
      cases e'
      exact z.keeps kp
  · obtain ⟨u, z⟩ := I.cell y c (cm e).1
    exact ⟨u, z.keeps kp⟩
end

/-! ### its turns -/
def genO (a : Addr) (g : Nat) : HO := .ext fun h => h.IsGen a g
section
variable {X : Cx} {B : Around} {s3 : Shared} {H3 : Hp} {scope : Scope} {C : Addr} {code : Value} {fp : List Addr} {it : Addr} {tn : Nat → Heap → Prop} {J : It} {elt tg iter : Expr} {ifs : List Expr} {pos : Pos} {g : TG} {tt : TT} {te : TE} {vs : List Nat} {σ0 : L2.St}
  {Bd : Nat → Nat → Prop} {W : Nat → Nat → Nat → Hp → Prop} {VV : Nat → Nat → Nat → V → Hp → Prop} {QE : Nat → Hp → Prop}
/-- it waits ahead of item i -/
def Pend (cx : Cx) (σ0 : L2.St) (fp : List Addr) (tn : Nat → Heap → Prop) (Bd : Nat → Nat → Prop) (W : Nat → Nat → Nat → Hp → Prop) (n : Nat) (s : Shared) : Prop :=
  ∃ i m H, Bd n m ∧ L2.Inv cx [] σ0 H s ∧ tn i s.heap ∧ (∀ b ∈ fp, H b = none) ∧ W n i m H
def Yok (cx : Cx) (σ0 : L2.St) (fp : List Addr) (tn : Nat → Heap → Prop) (Bd : Nat → Nat → Prop) (VV : Nat → Nat → Nat → V → Hp → Prop) (n : Nat) (v : Value) (s : Shared) : Prop :=
  ∃ i m H y, Bd (n + 1) m ∧ L2.Inv cx [] σ0 H s ∧ tn (i + 1) s.heap ∧ (∀ b ∈ fp, H b = none) ∧ L2.RelV y v ∧ VV (n + 1) i m y H
def GEnd (cx : Cx) (σ0 : L2.St) (QE : Nat → Hp → Prop) (n : Nat) (s : Shared) : Prop := ∃ H, L2.Inv cx [] σ0 H s ∧ QE n H
abbrev gR (cx : Cx) (σ0 : L2.St) (QE : Nat → Hp → Prop) : GenEnd := fun n _ r s1 => r = .ok .next ∧ GEnd cx σ0 QE n s1
abbrev gY (cx : Cx) (σ0 : L2.St) (fp : List Addr) (tn : Nat → Heap → Prop) (Bd : Nat → Nat → Prop) (W : Nat → Nat → Nat → Hp → Prop) (VV : Nat → Nat → Nat → V → Hp → Prop) : Protocol := fun n _ v s1 kap => Yok cx σ0 fp tn Bd VV n v s1 ∧ ∀ s2, Pend cx σ0 fp tn Bd W n s2 → kap (.send .none) s2
theorem seg_gen (hB1 : ∀ n m, Bd n m → 0 < n) (hB2 : ∀ n m m', Bd n m → m' < m → Bd n m') (hc : X.calm = true) (hco : scope.isCoroutine = false) (T : Turn X.prog X.w X.K tg J fp it tn) (pg : PG (GC X B s3 H3 scope C code fp) tg g) (pt : PTs (GC X B s3 H3 scope C code fp) ifs tt) (pe : PE (GC X B s3 H3 scope C code fp) elt te)
    (hσ : wipe σ0 vs = σ0) (turn : ∀ n i m H, W n i m H → (J.stop i H ∧ QE n H) ∨ (J.go i H ∧ ∀ x H', J.yld i H x H' → g x σ0 H' fun σ2 H2 => wipe σ2 vs = σ0 ∧ tt σ2 H2 fun b H3 => if b = true then te σ2 H3 fun y H4 => VV n i m y H4 else ∃ m', m' < m ∧ W n (i + 1) m' H3)) :
    ∀ (n m : Nat), Bd n m → ∀ (s0 s : Shared) (i : Nat) (H : Hp), L2.Inv (GC X B s3 H3 scope C code fp) [] σ0 H s → tn i s.heap → (∀ b ∈ fp, H b = none) → W n i m H →
      Seg (model X.prog X.w) B (gR (GC X B s3 H3 scope C code fp) σ0 QE) (gY (GC X B s3 H3 scope C code fp) σ0 fp tn Bd W VV) n s0 (.compLoop (.GeneratorExp elt [⟨tg, iter, ifs, 0⟩] scope pos) 0 (.ref it) .none (gEnv X scope C code))
        ((model X.prog X.w).den (.compLoop (.GeneratorExp elt [⟨tg, iter, ifs, 0⟩] scope pos) 0 (.ref it) .none (gEnv X scope C code))) [] s := by
  have stat : ∀ {σ' : L2.St} {H' : Hp} {s' : Shared}, L2.Inv (GC X B s3 H3 scope C code fp) [] σ' H' s' → (∀ b ∈ fp, H' b = none) → ∀ b ∈ fp, FpOk (GC X B s3 H3 scope C code fp) [] H' b := fun {σ' H' s'} I' hn b hb =>
    ⟨hn b hb, (I'.ok.exf b hb).1, I'.ok.exfs b hb, .inl hb, fun x c e => (I'.ok.exf b hb).2 x c e, fun p hp => absurd (show p ∈ ([] : List (Addr × Obj)) ++ [] from hp) (by simp)⟩
  have key : ∀ (n m : Nat), (∀ n' < n, ∀ m', Bd n' m' → ∀ (s0 s : Shared) (i : Nat) (H : Hp), L2.Inv (GC X B s3 H3 scope C code fp) [] σ0 H s → tn i s.heap → (∀ b ∈ fp, H b = none) → W n' i m' H →
      Seg (model X.prog X.w) B (gR (GC X B s3 H3 scope C code fp) σ0 QE) (gY (GC X B s3 H3 scope C code fp) σ0 fp tn Bd W VV) n' s0 (.compLoop (.GeneratorExp elt [⟨tg, iter, ifs, 0⟩] scope pos) 0 (.ref it) .none (gEnv X scope C code))
        ((model X.prog X.w).den (.compLoop (.GeneratorExp elt [⟨tg, iter, ifs, 0⟩] scope pos) 0 (.ref it) .none (gEnv X scope C code))) [] s) → (∀ m' < m, ∀ (s0 s : Shared) (i : Nat) (H : Hp), L2.Inv (GC X B s3 H3 scope C code fp) [] σ0 H s → tn i s.heap → (∀ b ∈ fp, H b = none) → W n i m' H →
      Seg (model X.prog X.w) B (gR (GC X B s3 H3 scope C code fp) σ0 QE) (gY (GC X B s3 H3 scope C code fp) σ0 fp tn Bd W VV) n s0 (.compLoop (.GeneratorExp elt [⟨tg, iter, ifs, 0⟩] scope pos) 0 (.ref it) .none (gEnv X scope C code))
        ((model X.prog X.w).den (.compLoop (.GeneratorExp elt [⟨tg, iter, ifs, 0⟩] scope pos) 0 (.ref it) .none (gEnv X scope C code))) [] s) → Bd n m →
      ∀ (s0 s : Shared) (i : Nat) (H : Hp), L2.Inv (GC X B s3 H3 scope C code fp) [] σ0 H s → tn i s.heap → (∀ b ∈ fp, H b = none) → W n i m H →
      Seg (model X.prog X.w) B (gR (GC X B s3 H3 scope C code fp) σ0 QE) (gY (GC X B s3 H3 scope C code fp) σ0 fp tn Bd W VV) n s0 (.compLoop (.GeneratorExp elt [⟨tg, iter, ifs, 0⟩] scope pos) 0 (.ref it) .none (gEnv X scope C code))
        ((model X.prog X.w).den (.compLoop (.GeneratorExp elt [⟨tg, iter, ifs, 0⟩] scope pos) 0 (.ref it) .none (gEnv X scope C code))) [] s := by
    intro n m ihn ih hmn s0 s i H I st nf w
    show Seg _ B _ _ _ s0 _ ((compTurn (.GeneratorExp elt [⟨tg, iter, ifs, 0⟩] scope pos) 0 (.ref it) .none (gEnv X scope C code)).onRaise (leaving (gEnv X scope C code))) [] s
    rw [compTurn_gen, Sem.onRaise_eq_wrap]
    refine seg_bind_wrap (wpAny_standAt ?_)
    rcases turn n i m H w with ⟨stop, q⟩ | ⟨go, step⟩
    · refine seg_bind_wrap (thnF (T.done (GC X B s3 H3 scope C code fp) rfl rfl rfl hc i [] s _ H (fun _ _ => False) I (stat I nf) st stop) fun r s6 ⟨hr, I6⟩ => ?_)
      subst hr
      exact seg_end (.ok .next) ⟨rfl, H, I6, q⟩
    · refine seg_bind_wrap (thnF (T.item (GC X B s3 H3 scope C code fp) rfl rfl rfl hc i [] s _ H (fun _ _ => False) I (stat I nf) st go) fun r s6 ⟨u, hr, h6⟩ => ?_)
      subst hr
      refine seg_bind_wrap (thnF h6 fun _ s7 ⟨x, H7, I7, r7, y7, st7, n7⟩ => ?_)
      have I7' := I7.pinned (stat I7 n7) (T.obj _ _ st7)
      refine seg_bind_wrap (thnF (pg.run _ s7 _ H7 x u _ I7' r7 (step x H7 y7)) fun _ s8 ⟨σ8, H8, I8, hw8, q8⟩ => ?_)
      refine seg_bind_wrap (thnF (pt.run _ s8 σ8 H8 _ I8 q8) fun b s9 ⟨H9, I9, q9⟩ => ?_)
      have fin : ∀ {s' : Shared} {H' : Hp}, L2.Inv (GC X B s3 H3 scope C code fp) ([] ++ pinsAt fp s7.heap) σ8 H' s' → L2.Inv (GC X B s3 H3 scope C code fp) [] σ0 H' s' ∧ tn (i + 1) s'.heap ∧ (∀ b ∈ fp, H' b = none) := fun {s' H'} I' => by
        have pin' : ∀ b ∈ fp, ∀ o, s7.heap.get? b = some o → s'.heap.get? b = some o ∧ H' b = none := fun b hb o e =>
          let z := I'.pin (b, o) (List.mem_append_right _ (List.mem_append_right _ (mem_pinsAt hb e)))
          ⟨z.1, z.2.1⟩
        have hl : σ0.length = σ8.length := by rw [← hw8, wipe_length]
        refine ⟨(I'.unpinned (pins := [])).weak hl (fun j v e => ?_), T.keep _ _ _ st7 fun b hb o e => (pin' b hb o e).1, fun b hb => ?_⟩
        · rw [← hw8] at e
          exact (wipe_some e).1
        · obtain ⟨o, e, _⟩ := T.obj _ _ st7 b hb
          exact (pin' b hb o e).2
      cases b with
      | false =>
        simp only [Bool.false_eq_true, if_false] at q9 ⊢
        obtain ⟨m', hm, w'⟩ := q9
        obtain ⟨f1, f2, f3⟩ := fin I9
        exact seg_again rfl (ih m' hm s0 s9 (i + 1) H9 f1 f2 f3 w')
      | true =>
        simp only [if_true] at q9 ⊢
        have hy : ∀ v, yieldOut (gEnv X scope C code) v = yieldValue v := fun v => by
          have e : (gEnv X scope C code).scope.isCoroutine = false := hco
          simp only [yieldOut, e, Bool.false_eq_true, if_false]
        simp only [hy]
        rw [Sem.bind_eq_wrap', Sem.bind_eq_wrap', Sem.wrap_wrap, Sem.wrap_wrap]
        refine seg_wrap (thnF (pe.run _ s9 σ8 H9 _ I9 q9) fun z s10 ⟨yv, H10, I10, r10, v10⟩ => ?_)
        obtain ⟨f1, f2, f3⟩ := fin I10
        obtain ⟨n', rfl⟩ : ∃ n', n = n' + 1 := ⟨n - 1, by have := hB1 n m hmn; omega⟩
        refine seg_at (seg_yield rfl rfl rfl ⟨⟨i, m, H10, yv, hmn, f1, f2, f3, r10, v10⟩, fun s2 hp => ?_⟩)
        obtain ⟨i2, m2, H2, hm2, I2, st2, nf2, w2⟩ := hp
        exact seg_again rfl (ihn n' (Nat.lt_succ_self _) m2 hm2 s2 s2 i2 H2 I2 st2 nf2 w2)
  intro n
  induction n using Nat.strongRecOn with
  | _ n ihn =>
    intro m
    induction m using Nat.strongRecOn with
    | _ m ih => exact fun hmn => key n m (fun n' hn' m' hm' => ihn n' hn' m' hm') (fun m' hm' => ih m' hm' (hB2 n m m' hmn hm')) hmn

theorem seg_gen0 (hB1 : ∀ n m, Bd n m → 0 < n) (hB2 : ∀ n m m', Bd n m → m' < m → Bd n m') (hc : X.calm = true) (hco : scope.isCoroutine = false) (T : Turn X.prog X.w X.K tg J fp it tn) (pg : PG (GC X B s3 H3 scope C code fp) tg g) (pt : PTs (GC X B s3 H3 scope C code fp) ifs tt) (pe : PE (GC X B s3 H3 scope C code fp) elt te)
    (hσ : wipe σ0 vs = σ0) (turn : ∀ n i m H, W n i m H → (J.stop i H ∧ QE n H) ∨ (J.go i H ∧ ∀ x H', J.yld i H x H' → g x σ0 H' fun σ2 H2 => wipe σ2 vs = σ0 ∧ tt σ2 H2 fun b H3 => if b = true then te σ2 H3 fun y H4 => VV n i m y H4 else ∃ m', m' < m ∧ W n (i + 1) m' H3))
    (n : Nat) (s : Shared) (hp : Pend (GC X B s3 H3 scope C code fp) σ0 fp tn Bd W n s) :
      Seg (model X.prog X.w) B (gR (GC X B s3 H3 scope C code fp) σ0 QE) (gY (GC X B s3 H3 scope C code fp) σ0 fp tn Bd W VV) n s (.compStart (.GeneratorExp elt [⟨tg, iter, ifs, 0⟩] scope pos) 0 (.ref it) .none (gEnv X scope C code))
        ((model X.prog X.w).den (.compStart (.GeneratorExp elt [⟨tg, iter, ifs, 0⟩] scope pos) 0 (.ref it) .none (gEnv X scope C code))) [] s := by
  obtain ⟨i, m, H, hm, I, st, nf, w⟩ := hp
  have loop := seg_gen (iter := iter) (pos := pos) (it := it) hB1 hB2 hc hco T pg pt pe hσ turn n m hm s s i H I st nf w
  show Seg _ B _ _ _ s _ ((compStart (.GeneratorExp elt [⟨tg, iter, ifs, 0⟩] scope pos) 0 (.ref it) .none (gEnv X scope C code)).onRaise (leaving (gEnv X scope C code))) [] s
  unfold compStart
  rw [Sem.onRaise_eq_wrap]
  show Seg _ B _ _ _ s _ ((ask >>= _).wrap _ _ _ _) [] s
  refine seg_bind_wrap (wpAny_askSetting ?_)
  split
  · exact seg_again rfl loop
  · refine seg_bind_wrap (wpAny_rule ?_)
    show Seg _ B _ _ _ s _ ((standAt iter.pos >>= _).wrap _ _ _ _) [] s
    exact seg_bind_wrap (wpAny_standAt (seg_bind_wrap (T.self _ i s _ _ st (seg_again rfl loop))))
/-- the generator's number is alive: it goes on from any state in which it waits -/
def Live (cx : Cx) (B : Around) (σ0 : L2.St) (fp : List Addr) (tn : Nat → Heap → Prop) (Bd : Nat → Nat → Prop) (W : Nat → Nat → Nat → Hp → Prop) (VV : Nat → Nat → Nat → V → Hp → Prop) (QE : Nat → Hp → Prop) (gn n : Nat) (s : Shared) : Prop :=
  ∃ gs, s.gens[gn]? = some gs ∧ ∀ s2, Pend cx σ0 fp tn Bd W n s2 → gs.Goes (model cx.prog cx.w) B (gR cx σ0 QE) (gY cx σ0 fp tn Bd W VV) n (.send .none) s2
theorem inv_gens {cx : Cx} {pins : List (Addr × Obj)} {σ : L2.St} {H : Hp} {s : Shared} {g' : Array GenState} (I : L2.Inv cx pins σ H s) (hg : AllBare g') : L2.Inv cx pins σ H { s with gens := g' } :=
  I.step (g' := g') (d' := s.drawn) (t' := s.toks) (ch := []) (fun b hb => absurd hb (by simp)) (fun b o _ _ _ e _ => e) (fun b o _ _ _ e _ => ⟨o.slots, e⟩) (fun _ _ _ _ n => n) (fun b o _ e => ⟨o, e⟩) (fun _ _ e => e) (fun _ _ _ e => e) (fun b ps e => ⟨#[], by rw [e]; simp⟩) (fun m hm => hm) I.hok hg
theorem bare_set {s : Shared} {gn : Nat} {x : GenState} (h : AllBare s.gens) (hx : x.bare = true) : AllBare (s.setGen gn x).gens := by
  intro y hy
  simp only [Shared.setGen] at hy
  rcases Array.mem_or_eq_of_mem_setIfInBounds hy with q | q
  · exact h y q
  · rw [q]; exact hx
theorem next_gen {A' : Around} {cx : Cx} {E : Value → Shared → Prop} {a : Addr} {gn n : Nat} {s : Shared} (hB1 : ∀ n m, Bd n m → 0 < n) (hh : A'.handled = none) (hroom : A'.depth < recursionLimit) (hW : ∀ n i m H, W n i m H → H a = some (genO a gn))
    (L : Live cx A'.in1 σ0 fp tn Bd W VV QE gn n s) (P : Pend cx σ0 fp tn Bd W n s) :
    wpAny (model cx.prog cx.w) A' (pyNext (.ref a)) (fun r s1 => (r = none ∧ GEnd cx σ0 QE n s1) ∨ ∃ v n', n = n' + 1 ∧ r = some v ∧ Yok cx σ0 fp tn Bd VV n' v s1 ∧ Live cx A'.in1 σ0 fp tn Bd W VV QE gn n' s1) E s := by
  obtain ⟨gs, hgs, hgo⟩ := L
  have P0 := P
  obtain ⟨i, m, H, hm, I, st, nf, w⟩ := P0
  have hg : s.heap.IsGen a gn := (I.hok a _ (hW n i m H w)).1
  refine GenW.wpAny_gsz (Nat.le_refl s.gens.size) ?_
  refine wpAny_pyNext_genexpQ (P := fun n _ s1 => GEnd cx σ0 QE n s1) (Y := gY cx σ0 fp tn Bd W VV) hh I.nolimit hroom hg hgs (hgo _ ⟨i, m, H, hm, inv_gens I (bare_set I.bare rfl), st, nf, w⟩) (fun v s1 gs' hb hy hsz => ?_) (fun s1 he h' hk _ => ?_)
  · obtain ⟨n', rfl⟩ : ∃ n', n = n' + 1 := ⟨n - 1, by have := hB1 n m hm; omega⟩
    obtain ⟨⟨i2, m2, H2, y, hm2, I2, st2, nf2, r2, v2⟩, kap⟩ := hy
    refine .inr ⟨v, n', rfl, rfl, ⟨i2, m2, H2, y, hm2, inv_gens I2 (bare_set I2.bare hb), st2, nf2, r2, v2⟩, gs', ?_, fun s2 hp => kap s2 hp⟩
    have h0 : gn < s.gens.size := (Array.getElem?_eq_some_iff.mp hgs).1
    rw [GenW.setGen_size] at hsz
    simp only [Shared.setGen]
    rw [Array.getElem?_setIfInBounds_self_of_lt (by omega)]
  · obtain ⟨H2, I2, q2⟩ := he
    exact .inl ⟨rfl, H2, (inv_gens I2 (bare_set I2.bare rfl)).kept hk, q2⟩
end
end DL
set_option Elab.async false
set_option linter.all false
set_option maxRecDepth 100000
set_option maxHeartbeats 2000000
namespace DL
open PySem PySem.Spec PyProof.Rows L2
section
variable {cx : Cx} {A : Around} {σ0 : L2.St} {fp : List Addr} {tn : Nat → Heap → Prop} {Bd : Nat → Nat → Prop} {W : Nat → Nat → Nat → Hp → Prop} {VV : Nat → Nat → Nat → V → Hp → Prop} {QE : Nat → Hp → Prop} {a S : Addr} {gn : Nat} {R : Result → Shared → Prop}
theorem any_loop (hB1 : ∀ n m, Bd n m → 0 < n) (hh : A.handled = none) (hroom : A.depth < recursionLimit) (hW : ∀ n i m H, W n i m H → H a = some (genO a gn)) (hE : ∀ n s1, GEnd cx σ0 QE n s1 → R (.ok (.ret (.bool false))) s1)
    (hV : ∀ n i m y H, Bd (n + 1) m → VV (n + 1) i m y H → ∃ c, y = .bl c ∧ (c = true → ∀ s1, L2.Inv cx [] σ0 H s1 → R (.ok (.ret (.bool true))) s1) ∧ (c = false → ∃ m', Bd n m' ∧ W n (i + 1) m' H)) :
    ∀ (n : Nat) (s : Shared), Live cx A.in1.in1 σ0 fp tn Bd W VV QE gn n s → Pend cx σ0 fp tn Bd W n s → codeAny (model cx.prog cx.w) A (.builtin "any.loop" ⟨[.ref a], []⟩) R s := by
  intro n
  induction n with
  | zero =>
    rintro s _ ⟨i, m, H, hm, _⟩
    exact absurd (hB1 0 m hm) (Nat.lt_irrefl _)
  | succ n ih =>
    intro s L P
    refine codeAny_builtin F.entry_any_loop ?_
    rw [Around.under_plainId F.plain_any_loop _]
    show wpAny _ A.in1 (pyNext (.ref a) >>= _) _ _ s
    refine wpAny_bind (wpAny_mono (next_gen (A' := A.in1) (E := fun _ _ => False) hB1 hh hroom hW L P) (fun r s1 h => ?_) fun _ _ z => z.elim)
    rcases h with ⟨rfl, h⟩ | ⟨v, n', hn, rfl, ⟨i, m, H, y, hm, I, st, nf, rv, vv⟩, L'⟩
    · exact wpAny_bind (wpAny_rule (wpAny_pure (hE _ s1 h)))
    · cases hn
      obtain ⟨c, rfl, h1, h2⟩ := hV _ i m y H hm vv
      have e : v = .bool c := rv
      subst e
      refine wpAny_bind (wpAny_holding (wpAny_truthy_bool ?_))
      refine wpAny_bind (wpAny_letGo ?_)
      cases c with
      | false =>
        simp only [Bool.false_eq_true, if_false]
        obtain ⟨m', hm', w'⟩ := h2 rfl
        exact wpAny_pure ⟨plainId_quiet F.plain_any_loop _, ih s1 L' ⟨i + 1, m', H, hm', I, st, nf, w'⟩⟩
      | true =>
        simp only [if_true]
        exact wpAny_bind (wpAny_rule (wpAny_pure (h1 rfl s1 I)))
theorem all_loop (hB1 : ∀ n m, Bd n m → 0 < n) (hh : A.handled = none) (hroom : A.depth < recursionLimit) (hW : ∀ n i m H, W n i m H → H a = some (genO a gn)) (hE : ∀ n s1, GEnd cx σ0 QE n s1 → R (.ok (.ret (.bool true))) s1)
    (hV : ∀ n i m y H, Bd (n + 1) m → VV (n + 1) i m y H → ∃ c, y = .bl c ∧ (c = false → ∀ s1, L2.Inv cx [] σ0 H s1 → R (.ok (.ret (.bool false))) s1) ∧ (c = true → ∃ m', Bd n m' ∧ W n (i + 1) m' H)) :
    ∀ (n : Nat) (s : Shared), Live cx A.in1.in1 σ0 fp tn Bd W VV QE gn n s → Pend cx σ0 fp tn Bd W n s → codeAny (model cx.prog cx.w) A (.builtin "all.loop" ⟨[.ref a], []⟩) R s := by
  intro n
  induction n with
  | zero =>
    rintro s _ ⟨i, m, H, hm, _⟩
    exact absurd (hB1 0 m hm) (Nat.lt_irrefl _)
  | succ n ih =>
    intro s L P
    refine codeAny_builtin F.entry_all_loop ?_
    rw [Around.under_plainId F.plain_all_loop _]
    show wpAny _ A.in1 (pyNext (.ref a) >>= _) _ _ s
    refine wpAny_bind (wpAny_mono (next_gen (A' := A.in1) (E := fun _ _ => False) hB1 hh hroom hW L P) (fun r s1 h => ?_) fun _ _ z => z.elim)
    rcases h with ⟨rfl, h⟩ | ⟨v, n', hn, rfl, ⟨i, m, H, y, hm, I, st, nf, rv, vv⟩, L'⟩
    · exact wpAny_bind (wpAny_rule (wpAny_pure (hE _ s1 h)))
    · cases hn
      obtain ⟨c, rfl, h1, h2⟩ := hV _ i m y H hm vv
      have e : v = .bool c := rv
      subst e
      refine wpAny_bind (wpAny_holding (wpAny_truthy_bool ?_))
      refine wpAny_bind (wpAny_letGo ?_)
      cases c with
      | true =>
        simp only [if_true]
        obtain ⟨m', hm', w'⟩ := h2 rfl
        exact wpAny_pure ⟨plainId_quiet F.plain_all_loop _, ih s1 L' ⟨i + 1, m', H, hm', I, st, nf, w'⟩⟩
      | false =>
        simp only [Bool.false_eq_true, if_false]
        exact wpAny_bind (wpAny_rule (wpAny_pure (h1 rfl s1 I)))
/-- the running sum's list -/
theorem acc_obj {pins : List (Addr × Obj)} {H : Hp} {s : Shared} {acc : Int} (I : L2.Inv cx pins σ0 H s) (h : H S = some (.lst [.int acc])) : ∃ t c, s.heap.get? S = some { cls := .type "list", dict := none, data := .seq #[.int acc t] c, slots := #[] } := by
  obtain ⟨_, its, n, hv, ho⟩ := I.hok S _ h
  cases hv with
  | cons r rs =>
    cases rs
    obtain ⟨t, rfl⟩ := r
    exact ⟨t, n, ho⟩
theorem acc_set {pins : List (Addr × Obj)} {H : Hp} {s : Shared} {acc z : Int} {h' : Heap} {tk c : Nat} {t : Tok} (I : L2.Inv cx pins σ0 H s) (h : H S = some (.lst [.int acc])) (k : ∀ b u, b ≠ S → s.heap.get? b = some u → h'.get? b = some u)
    (ho : h'.get? S = some { cls := .type "list", dict := none, data := .seq #[.int z t] c, slots := #[] }) : L2.Inv cx pins σ0 (upd H S (.lst [.int z])) { s with heap := h', toks := tk } :=
  I.write (x := S) (e := S) (by rw [h]; trivial) (.inl rfl) k ⟨_, ho⟩ ⟨by show 1 ≤ sizeLine; decide, [.int z t], c, .cons ⟨t, rfl⟩ .nil, ho⟩
theorem sum_loop (accOf : Nat → Int) (hB1 : ∀ n m, Bd n m → 0 < n) (hh : A.handled = none) (hroom : A.depth < recursionLimit) (hkeep : ∀ i (h h' : Heap), tn i h → (∀ b ∈ fp, ∀ o, h.get? b = some o → h'.get? b = some o) → tn i h') (hW : ∀ n i m H, W n i m H → H a = some (genO a gn) ∧ H S = some (.lst [.int (accOf n)]))
    (hE : ∀ n H s1, L2.Inv cx [] σ0 H s1 → QE n H → ∀ t, R (.ok (.ret (.int (accOf n) t))) s1)
    (hV : ∀ n i m y H, Bd (n + 1) m → VV (n + 1) i m y H → ∃ z, y = .int z ∧ H S = some (.lst [.int (accOf (n + 1))]) ∧ accOf n = accOf (n + 1) + z ∧ ∃ m', Bd n m' ∧ W n (i + 1) m' (upd H S (.lst [.int (accOf n)]))) :
    ∀ (n : Nat) (s : Shared) (st : Int), (st = 0 ∨ st = 2) → Live cx A.in1.in1 σ0 fp tn Bd W VV QE gn n s → Pend cx σ0 fp tn Bd W n s → codeAny (model cx.prog cx.w) A (.builtin "sum.loop" ⟨[.ref a, .ref S, rawInt st, rawInt 0], []⟩) R s := by
  intro n
  induction n with
  | zero =>
    rintro s st _ _ ⟨i, m, H, hm, _⟩
    exact absurd (hB1 0 m hm) (Nat.lt_irrefl _)
  | succ n ih =>
    intro s st hst L P
    obtain ⟨i0, m0, H0, _, I0, st0, nf0, w0⟩ := id P
    obtain ⟨t0, c0, hS0⟩ := acc_obj I0 (hW _ i0 m0 H0 w0).2
    refine codeAny_builtin F.entry_sum_loop ?_
    rw [Around.under_plainId F.plain_sum_loop _]
    show wpAny _ A.in1 (seqItems? (.ref S) >>= _) _ _ s
    refine wpAny_bind (wpAny_seqItems hS0 rfl ?_)
    show wpAny _ A.in1 (tryCatch (pyNext (.ref a)) _ >>= _) _ _ s
    refine wpAny_bind (wpAny_tryCatch (wpAny_mono (next_gen (A' := A.in1) (E := fun _ _ => False) hB1 hh hroom (fun n i m H w => (hW n i m H w).1) L P) (fun r s1 h => ?_) fun _ _ z => z.elim))
    rcases h with ⟨rfl, h⟩ | ⟨v, n', hn, rfl, ⟨i, m, H, y, hm, I, st1, nf, rv, vv⟩, L'⟩
    · obtain ⟨H1, I1, q1⟩ := h
      exact wpAny_pure (hE _ H1 s1 I1 q1 t0)
    · cases hn
      obtain ⟨z, rfl, e1, e2, m', hm', w'⟩ := hV _ i m y H hm vv
      obtain ⟨t, rfl⟩ := rv
      obtain ⟨t1, c1, hS1⟩ := acc_obj I e1
      have nS : ∀ b ∈ fp, S ≠ b := fun b hb e => by
        have := nf b hb
        rw [← e, e1] at this
        cases this
      -- behind the list's change
      have fin : ∀ {h' : Heap} {tk c : Nat} {t2 : Tok}, (∀ b u, b ≠ S → s1.heap.get? b = some u → h'.get? b = some u) → h'.get? S = some { cls := .type "list", dict := none, data := .seq #[.int (accOf (n + 1) + z) t2] c, slots := #[] } →
          Live cx A.in1.in1 σ0 fp tn Bd W VV QE gn n { s1 with heap := h', toks := tk } ∧ Pend cx σ0 fp tn Bd W n { s1 with heap := h', toks := tk } := fun {h' tk c t2} k ho => by
        rw [← e2] at ho
        refine ⟨L', i + 1, m', _, hm', acc_set I e1 k ho, hkeep _ _ _ st1 fun b hb o e => k b o (fun q => nS b hb q.symm) e, fun b hb => ?_, w'⟩
        rw [upd_ne (fun q => nS b hb q.symm)]
        exact nf b hb
      rcases hst with rfl | rfl
      · show wpAny _ A.in1 (if (_ : Bool) = true then (mkInt (accOf (n + 1) + z) >>= _) else _) _ _ _
        split
        · refine wpAny_bind (wpAny_mkInt ?_)
          show wpAny _ A.in1 (updateSeq S (fun _ => #[.int (accOf (n + 1) + z) s1.toks]) >>= _) _ _ _
          refine wpAny_bind ?_
          obtain ⟨f1, f2⟩ := fin (tk := s1.toks + 1) (fun b u hb e => (Heap.get?_update_other _ (Obj.mapSeq fun _ => #[Value.int (accOf (n + 1) + z) s1.toks]) (Ne.symm hb)).trans e) (Heap.get?_update_self (Obj.mapSeq fun _ => #[Value.int (accOf (n + 1) + z) s1.toks]) hS1 rfl)
          exact wpAny_updateSeq hS1 rfl (wpAny_pure ⟨plainId_quiet F.plain_sum_loop _, ih _ 0 (.inl rfl) f1 f2⟩)
        · refine wpAny_bind (wpAny_rule ?_)
          refine wpAny_bind (wpAny_attempt (wpAny_holding (wpAny_add_int ?_)))
          show wpAny _ A.in1 (updateSeq S (fun _ => #[.int (accOf (n + 1) + z) s1.toks]) >>= _) _ _ _
          refine wpAny_bind (wpAny_updateSeq hS1 rfl ?_)
          have hS2 := Heap.get?_update_self (Obj.mapSeq fun _ => #[Value.int (accOf (n + 1) + z) s1.toks]) hS1 rfl
          refine wpAny_bind (wpAny_letGo ?_)
          obtain ⟨f1, f2⟩ := fin (tk := s1.toks + 1) (fun b u hb e => (Heap.get?_update_other _ (Obj.mapSeq fun _ => #[Value.int (accOf (n + 1) + z) s1.toks]) (Ne.symm hb)).trans ((Heap.get?_update_other _ (Obj.mapSeq fun _ => #[Value.int (accOf (n + 1) + z) s1.toks]) (Ne.symm hb)).trans e)) (Heap.get?_update_self (Obj.mapSeq fun _ => #[Value.int (accOf (n + 1) + z) s1.toks]) hS2 rfl)
          exact wpAny_bind (wpAny_updateSeq hS2 rfl (wpAny_pure ⟨plainId_quiet F.plain_sum_loop _, ih _ 2 (.inr rfl) f1 f2⟩))
      · show wpAny _ A.in1 ((holding [Value.int z t] (binaryOp .Add (.int (accOf (n + 1)) t0) (.int z t))).attempt >>= _) _ _ _
        refine wpAny_bind (wpAny_attempt (wpAny_holding (wpAny_add_int ?_)))
        show wpAny _ A.in1 (updateSeq S (fun _ => #[.int (accOf (n + 1) + z) s1.toks]) >>= _) _ _ _
        refine wpAny_bind (wpAny_updateSeq hS1 rfl ?_)
        have hS2 := Heap.get?_update_self (Obj.mapSeq fun _ => #[Value.int (accOf (n + 1) + z) s1.toks]) hS1 rfl
        refine wpAny_bind (wpAny_letGo ?_)
        obtain ⟨f1, f2⟩ := fin (tk := s1.toks + 1) (fun b u hb e => (Heap.get?_update_other _ (Obj.mapSeq fun _ => #[Value.int (accOf (n + 1) + z) s1.toks]) (Ne.symm hb)).trans ((Heap.get?_update_other _ (Obj.mapSeq fun _ => #[Value.int (accOf (n + 1) + z) s1.toks]) (Ne.symm hb)).trans e)) (Heap.get?_update_self (Obj.mapSeq fun _ => #[Value.int (accOf (n + 1) + z) s1.toks]) hS2 rfl)
        exact wpAny_bind (wpAny_updateSeq hS2 rfl (wpAny_pure ⟨plainId_quiet F.plain_sum_loop _, ih _ 2 (.inr rfl) f1 f2⟩))
end
end DL
set_option Elab.async false
set_option linter.all false
set_option maxRecDepth 100000
set_option maxHeartbeats 2000000
namespace DL
open PySem PySem.Spec PyProof.Rows L2
/-- a generator just made -/
def GRdy (X : Cx) (pins : List (Addr × Obj)) (σ : L2.St) (vs : List Nat) (tg elt iter : Expr) (ifs : List Expr) (scope : Scope) (pos : Pos) (J : It) (H2 : Hp) (a : Addr) (gn : Nat) (s5 : Shared) : Prop :=
  ∃ s4 C code fp it tn, Turn X.prog X.w X.K tg J fp it tn ∧ L2.Inv (GC X X.A.in1.in1 s4 H2 scope C code fp) [] (wipe σ vs) (upd H2 a (genO a gn)) s5 ∧ tn 0 s5.heap ∧ (∀ b ∈ fp, upd H2 a (genO a gn) b = none) ∧
    s5.gens[gn]? = some (.fresh (.compStart (.GeneratorExp elt [⟨tg, iter, ifs, 0⟩] scope pos) 0 (.ref it) .none (gEnv X scope C code))) ∧ ∀ H' s', L2.Inv (GC X X.A.in1.in1 s4 H2 scope C code fp) [] (wipe σ vs) H' s' → L2.Inv X pins σ H' s'
theorem genO_ok {P : Program} {w : World} {H : Hp} {h : Heap} {a : Addr} {g : Nat} (hg : h.IsGen a g) : ObjOk P w H h a (genO a g) := by
  refine ⟨hg, ?_, fun h1 h2 q k => ?_⟩
  · obtain ⟨o, _, _, e, _⟩ := hg
    exact ⟨o, e⟩
  · obtain ⟨o, nm, qn, e, r⟩ := q
    exact ⟨o, nm, qn, k o e, r⟩
section
variable {X : Cx} {pins : List (Addr × Obj)} {σ : L2.St} {H : Hp} {s : Shared}
theorem gen_make {T : List (Addr × Str)} {c P : Addr} {k : Nat} {tg elt iter : Expr} {ifs : List Expr} {scope : Scope} {own : List (Str × Nat)} {pos : Pos} {wi : TI} {Q' : Value → Shared → Prop} (hN : X.N.Nodup) (hr : Room k X.A) (I : L2.Inv X pins σ H s) (TB : LamX.TabB X.base X.mg c P) (hcode : X.env.code = .ref c)
    (hm : (P, X.env.qual ++ "<genexpr>") ∈ T) (hu : ∀ p ∈ T, p.1 = P → p.2 = X.env.qual ++ "<genexpr>") (hi : PI X tg iter wi) (ok : BlkOk X.N X.env.scope scope own) (hno : ∀ y ∈ scope.names, y.2 ≠ .cell) (hco : scope.isCoroutine = false) (hdot : scope.names.lookup (".0" : Str) = some NameKind.local)
    (hs : ∀ v, genFold iter X.env v = pure v)
    {R : It → Hp → Prop} (h : wi σ H R) (hR : ∀ J H1, R J H1 → LamX.Tabs T H1 ∧ ∀ H2, LamX.ExtN H1 H2 → LamX.Tabs T H2 → ∀ a gn s5, H2 a = none → GRdy X pins σ (own.map (·.2)) tg elt iter ifs scope pos J H2 a gn s5 → Q' (.ref a) s5) :
    wpAny (model X.prog X.w) X.A (eval (.GeneratorExp elt [⟨tg, iter, ifs, 0⟩] scope pos) X.env) Q' X.xe s := by
  have hfree : ∀ y ∈ scope.names, y.2 = .free → ∃ c, X.env.cells.lookup y.1 = some c := fun y hy e => by
    rcases ok.free y hy e with k | k
    · exact I.ok.has _ (.inl k)
    · exact I.ok.has _ (.inr k)
  refine wpAny_GeneratorExp_make hco (closure_ok hfree) hno hdot ok.kind (by have := hr.dp; omega) ?_ hs
  refine thn (hi.run pins s σ H _ I h) fun xv s1 h1 => thn h1 fun itv s2 h2 => ?_
  obtain ⟨it, fp, tn, J, H2, e, I2, T2, st2, f2, q0⟩ := h2
  obtain ⟨hT, q⟩ := hR J H2 q0
  subst e
  refine ⟨I2.nolimit, ?_⟩
  obtain ⟨ps, hP, ht, ha⟩ := hT _ hm
  have hP' : s2.heap.get? P = some { cls := .none, data := .fields ps } := I2.hok P _ hP
  -- behind the code object
  have cont : ∀ (code : Value) (s3 : Shared) (H3 : Hp), L2.Inv X pins σ H3 s3 → LamX.ExtN H2 H3 → LamX.Tabs T H3 → tn 0 s3.heap → (∀ b ∈ fp, FpOk X pins H3 b ∧ b < s3.heap.objs.size) →
      wpAny (model X.prog X.w) X.A (builtinsFor X.env.globals X.env.builtins) (fun bi s4 => ∀ h', h'.Ns s4.heap.objs.size (fun y => if y = ".0" then some (.ref it) else none) → Heap.SameBut s4.heap.objs.size (s4.heap.push { cls := .type "frame", data := .dict #[] }) h' →
        Q' (.ref h'.objs.size) { s4 with gens := s4.gens.push (.fresh (.compStart (.GeneratorExp elt [⟨tg, iter, ifs, 0⟩] scope pos) 0 (.ref it) .none (genEnv scope (cloFrom X.env.cells scope.names []) s4.heap.objs.size code bi X.env))), toks := s4.toks + 1 + 1 + 1, heap := h'.push { cls := .type "generator", data := .fields #[.int s4.gens.size 0, .str "<genexpr>" (s4.toks + 1), .str (X.env.qual ++ "<genexpr>") (s4.toks + 1 + 1)] } }) X.xe s3 := by
    intro code s3 H3 I3 eN T3 st3 f3
    obtain ⟨bm, ob, e1, e2, e3, e4, e5, e6, e7, e8⟩ := TB.bm
    refine wpAny_builtinsFor (m := X.mg) (by rw [I3.ok.glob]; exact I3.mod.glob.keeps I3.bk) e1 e2 (I3.bk _ _ e5) e6 e7 e8 ?_
    intro h' hns hsb
    have kp : ∀ b o, s3.heap.get? b = some o → h'.get? b = some o := fun b o e => hsb.extBut b o (Nat.ne_of_lt (Heap.lt_size e)) (Heap.get?_push_of_some _ e)
    have I4 := gen_start (A := X.A.in1.in1) (code := code) (tk := s3.toks + 1 + 1 + 1) (g' := s3.gens) I3 ok hno hN f3 hr.hd I3.ok.frames hns kp I3.bare
    have hsz : s3.heap.objs.size ≤ h'.objs.size := Nat.le_of_lt hns.lt
    have na : H3 h'.objs.size = none := I3.hok.fresh hsz
    have hgen : (h'.push { cls := .type "generator", data := .fields #[.int s3.gens.size 0, .str "<genexpr>" (s3.toks + 1), .str (X.env.qual ++ "<genexpr>") (s3.toks + 1 + 1)] }).IsGen h'.objs.size s3.gens.size := ⟨_, _, _, Heap.get?_push_size _ rfl, rfl, rfl, rfl⟩
    have I5 := I4.laid (a := h'.objs.size) (t' := s3.toks + 1 + 1 + 1) (h' := h'.push { cls := .type "generator", data := .fields #[.int s3.gens.size 0, .str "<genexpr>" (s3.toks + 1), .str (X.env.qual ++ "<genexpr>") (s3.toks + 1 + 1)] }) (fun b u e => Heap.get?_push_of_some _ e) (Nat.le_refl _) (genO_ok hgen)
    have I6 := inv_gens (g' := s3.gens.push (.fresh (.compStart (.GeneratorExp elt [⟨tg, iter, ifs, 0⟩] scope pos) 0 (.ref it) .none (gEnv X scope s3.heap.objs.size code)))) I5 (I3.bare.push rfl)
    refine q H3 eN T3 h'.objs.size s3.gens.size _ na ⟨s3, s3.heap.objs.size, code, fp, it, tn, T2, I6, T2.keep _ _ _ st3 fun b _ o e => Heap.get?_push_of_some _ (kp b o e), fun b hb => ?_, Array.getElem?_push_size .., fun H' s' I' => ?_⟩
    · rw [upd_ne (fun z => by have := (f3 b hb).2; rw [z] at this; exact absurd (Nat.lt_of_lt_of_le this hsz) (Nat.lt_irrefl _))]
      exact (f3 b hb).1.1
    · exact I3.call' (ch := fp) I'.os I'.base I'.hok I'.bare fun b hb => ⟨(f3 b hb).1.2.2.2.1, (f3 b hb).1.2.1, (f3 b hb).1.2.2.2.2.1, (f3 b hb).1.2.2.2.2.2⟩
  have szf : ∀ b ∈ fp, b < s2.heap.objs.size := fun b hb => by
    obtain ⟨o, e, _⟩ := T2.obj _ _ st2 b hb
    exact Heap.lt_size e
  cases hc : codeAmong pos ps.toList with
  | some cv =>
    refine wpAny_genexprCode_hit hcode ((TB.code.keeps I2.bk).code hP' ht) hc ?_
    exact cont cv s2 H2 I2 (LamX.ExtN.refl _) hT st2 fun b hb => ⟨f2 b hb, szf b hb⟩
  | none =>
    refine wpAny_genexprCodeX hcode ((TB.code.keeps I2.bk).code hP' ht) ((TB.code.keeps I2.bk).tab hP') hc fun c' h' tk hx hge hlt hco' hrec htb _ => ?_
    obtain ⟨c2, oc, vs2, t, e2, hoc, hd, hv⟩ := hrec
    cases e2
    have nC : H2 c' = none := I2.hok.fresh hge
    have hsz : s2.heap.objs.size ≤ h'.objs.size := Nat.le_trans hge (Nat.le_of_lt hlt)
    have I3 := LamX.inv_table (t' := tk) (more := #[rawInt pos.line, rawInt pos.col, .ref c']) (h' := h') I2 hP (fun b o hb e => hx b o hb e) htb.2 hge ⟨oc, vs2, t, hoc, hd, hv⟩
    have hE : LamX.ExtN H2 (upd (upd H2 P (.tbl (ps ++ #[rawInt pos.line, rawInt pos.col, .ref c']))) c' (LamX.CodeO c' (X.env.qual ++ "<genexpr>"))) := fun b o e n => by
      rw [upd_ne (ne_of_none e nC), upd_ne (fun z => n ps (Option.some.inj (e.symm.trans (by rw [z]; exact hP))))]
      exact e
    have eL : (ps ++ #[rawInt pos.line, rawInt pos.col, .ref c']).toList = ps.toList ++ [rawInt pos.line, rawInt pos.col, .ref c'] := by simp
    refine cont (.ref c') _ _ I3 hE (fun p hp => ?_) (T2.keep _ _ _ st2 fun b hb o e => hx b o (fun z => ?_) e) fun b hb => ⟨⟨?_, (f2 b hb).2⟩, Nat.lt_of_lt_of_le (szf b hb) hsz⟩
    · by_cases hb : p.1 = P
      · rw [hu p hp hb, hb]
        refine ⟨_, by rw [upd_ne (ne_of_none hP nC), upd_same], by rw [eL]; exact PySem.TriplesOk_snoc _ _ _ _ ht, fun p' cv hcv => ?_⟩
        rw [eL] at hcv
        rcases LamX.among_app _ ht hcv with z | z
        · obtain ⟨c0, e1, e2⟩ := ha p' cv z
          exact ⟨c0, e1, hE _ _ e2 LamX.codeO_ne⟩
        · exact ⟨c', z, upd_same⟩
      · obtain ⟨ps', a1, a2, a3⟩ := hT p hp
        refine ⟨ps', by rw [upd_ne (ne_of_none a1 nC), upd_ne hb]; exact a1, a2, fun p' cv hcv => ?_⟩
        obtain ⟨c0, e1, e2⟩ := a3 p' cv hcv
        exact ⟨c0, e1, hE _ _ e2 LamX.codeO_ne⟩
    · have := (f2 b hb).1
      rw [z, hP] at this
      cases this
    · have hb0 := (f2 b hb).1
      rw [upd_ne (fun z => ?_), upd_ne (fun z => ?_)]
      · exact hb0
      · rw [z, hP] at hb0; cases hb0
      · have := szf b hb
        rw [z] at this
        exact absurd (Nat.lt_of_lt_of_le this hge) (Nat.lt_irrefl _)
end

/-! ### any, all, sum of one -/
section
variable {X : Cx} {T : List (Addr × Str)} {c P : Addr} {k : Nat} {tg elt iter : Expr} {ifs : List Expr} {scope : Scope} {own : List (Str × Nat)} {gpos p pos : Pos} {wi : TI} {g : TG} {tt : TT} {te : TE}
def tGAny (T : List (Addr × Str)) (stop : Bool) (wi : TI) (g : TG) (tt : TT) (te : TE) (vs : List Nat) : TE := fun σ H Q => wi σ H fun J H1 => LamX.Tabs T H1 ∧ ∀ H2, LamX.ExtN H1 H2 → LamX.Tabs T H2 → ∀ a gn, H2 a = none →
  ∃ W : Nat → Nat → Hp → Prop, (∃ m, W 0 m (upd H2 a (genO a gn))) ∧ ∀ i m H, W i m H → H a = some (genO a gn) ∧ ((J.stop i H ∧ Q (.bl (!stop)) H) ∨ (J.go i H ∧ ∀ x H', J.yld i H x H' → g x (wipe σ vs) H' fun σ2 H3 => wipe σ2 vs = wipe σ vs ∧ tt σ2 H3 fun b H4 =>
    if b = true then te σ2 H4 fun y H5 => ∃ d, y = .bl d ∧ (d = stop → Q (.bl stop) H5) ∧ (d = (!stop) → ∃ m', m' < m ∧ W (i + 1) m' H5) else ∃ m', m' < m ∧ W (i + 1) m' H4))
def tGSum (T : List (Addr × Str)) (wi : TI) (g : TG) (tt : TT) (te : TE) (vs : List Nat) : TE := fun σ H Q => wi σ H fun J H1 => LamX.Tabs T H1 ∧ ∀ H2, LamX.ExtN H1 H2 → LamX.Tabs T H2 → ∀ a gn, H2 a = none → ∀ S, upd H2 a (genO a gn) S = none →
  ∃ (zs : List Int) (W : Nat → Nat → Nat → Hp → Prop), (∃ m, W (zs.length + 1) 0 m (upd (upd H2 a (genO a gn)) S (.lst [.int 0]))) ∧ ∀ n i m H, W n i m H → H a = some (genO a gn) ∧ H S = some (.lst [.int (zs.take (zs.length + 1 - n)).sum]) ∧ ((J.stop i H ∧ n = 1 ∧ Q (.int zs.sum) H) ∨ (J.go i H ∧ ∀ x H', J.yld i H x H' → g x (wipe σ vs) H' fun σ2 H3 => wipe σ2 vs = wipe σ vs ∧ tt σ2 H3 fun b H4 =>
    if b = true then te σ2 H4 fun y H5 => ∃ z, y = .int z ∧ zs[zs.length + 1 - n]? = some z ∧ H5 S = some (.lst [.int (zs.take (zs.length + 1 - n)).sum]) ∧ ∃ m', W (n - 1) (i + 1) m' (upd H5 S (.lst [.int ((zs.take (zs.length + 1 - n)).sum + z)])) else ∃ m', m' < m ∧ W n (i + 1) m' H4))
theorem wipe_wipe (σ : L2.St) (vs : List Nat) : wipe (wipe σ vs) vs = wipe σ vs := wipe_eq (is := []) ⟨rfl, fun _ _ => rfl⟩ (fun _ h => absurd h (by simp))
theorem pe_gany (hc : X.calm = true) (hN : X.N.Nodup) (hr : Room k X.A) (hg : Gl X "any") (hm : X.mg "any" = none) (TB : LamX.TabB X.base X.mg c P) (hcode : X.env.code = .ref c) (hmT : (P, X.env.qual ++ "<genexpr>") ∈ T) (hu : ∀ p ∈ T, p.1 = P → p.2 = X.env.qual ++ "<genexpr>")
    (hi : PI X tg iter wi) (ok : BlkOk X.N X.env.scope scope own) (hno : ∀ y ∈ scope.names, y.2 ≠ .cell) (hco : scope.isCoroutine = false) (hdot : scope.names.lookup (".0" : Str) = some NameKind.local)
    (pg : ∀ s H C code fp, PG (GC X X.A.in1.in1 s H scope C code fp) tg g) (pt : ∀ s H C code fp, PTs (GC X X.A.in1.in1 s H scope C code fp) ifs tt) (pe : ∀ s H C code fp, PE (GC X X.A.in1.in1 s H scope C code fp) elt te)
    (hs : ∀ v, genFold iter X.env v = pure v) (he : starEach [.GeneratorExp elt [⟨tg, iter, ifs, 0⟩] scope gpos] X.env = (false, eval (.GeneratorExp elt [⟨tg, iter, ifs, 0⟩] scope gpos) X.env) :: starEach [] X.env := by rfl) (hb : bootBuiltins "any" = some (.builtin "any") := by rfl) :
    PE X (.Call (.Name "any" p) [.GeneratorExp elt [⟨tg, iter, ifs, 0⟩] scope gpos] [] pos) (tGAny T true wi g tt te (own.map (·.2))) := by
  refine ⟨fun pins s σ H Q I h => ?_⟩
  refine wpAny_Call_Name_kw (ld_blt I hg hm hb ?_)
  refine PyProof.Rows.callWith_builtin1 ?_ he (by rfl)
  rw [he]
  show wpAny _ _ (spliced ((false, eval (.GeneratorExp elt [⟨tg, iter, ifs, 0⟩] scope gpos) X.env) :: backTo pos (starEach [] X.env))) _ _ s
  have hd : X.A.in1.handled = none := hr.hd
  have hroom : X.A.depth < recursionLimit := by have := hr.dp; omega
  refine Calls.spliced_cons (gen_make (T := T) (wi := wi) hN hr I TB hcode hmT hu hi ok hno hco hdot hs h fun J H1 q => ⟨q.1, fun H2 eN T2 a gn s5 na rdy => Calls.spliced_nil ?_⟩)
  obtain ⟨s4, C, code, fp, it, tn, Tn, I5, st5, n5, hgs, back⟩ := rdy
  have hgen : s5.heap.IsGen a gn := (I5.hok a _ upd_same).1
  refine call_function_tree F.kind_any F.plain_any F.entry_any (F.args_any1 _) ?_
  unfold Builtin.«any»
  obtain ⟨W, ⟨m0, w0⟩, step⟩ := q.2 H2 eN T2 a gn na
  refine wpAny_bind (m := oneArg "any" _) (wpAny_pure ?_)
  refine wpAny_bind (wpAny_pyIter_gen hgen ?_)
  refine wpAny_pure ⟨plainId_quiet F.plain_any_loop _, ?_⟩
  have hP : Pend (GC X X.A.in1.in1 s4 H2 scope C code fp) (wipe σ (own.map (·.2))) fp tn (fun n m => m < n) (fun _ i m H => W i m H) (m0 + 1) s5 := ⟨0, m0, _, Nat.lt_succ_self _, I5, st5, n5, w0⟩
  refine any_loop (cx := GC X X.A.in1.in1 s4 H2 scope C code fp) (A := X.A) (σ0 := wipe σ (own.map (·.2))) (fp := fp) (tn := tn) (Bd := fun n m => m < n) (W := fun _ i m H => W i m H)
    (VV := fun _ i m y H5 => ∃ d, y = .bl d ∧ (d = true → Q (.bl true) H5) ∧ (d = (!true) → ∃ m', m' < m ∧ W (i + 1) m' H5)) (QE := fun _ H => Q (.bl (!true)) H) (a := a) (gn := gn) (fun n m h => by omega) hd hroom (fun n i m H w => (step i m H w).1) (fun n s1 ⟨H6, I6, q6⟩ => ⟨.bl _, H6, back H6 s1 I6, rfl, q6⟩)
    (fun n i m y H hmn ⟨d, e, h1, h2⟩ => ⟨d, e, fun hd s1 I6 => ⟨.bl _, H, back H s1 I6, rfl, h1 hd⟩, fun hd => by
      obtain ⟨m', hm', w'⟩ := h2 hd
      exact ⟨m', by omega, w'⟩⟩) (m0 + 1) s5 ⟨_, hgs, fun s6 hp => ⟨rfl, seg_gen0 (fun n m h => by omega) (fun n m m' h h' => by omega) hc hco Tn (pg s4 H2 C code fp) (pt s4 H2 C code fp) (pe s4 H2 C code fp) (wipe_wipe σ _) (fun n i m H w => (step i m H w).2) (m0 + 1) s6 hp⟩⟩ hP
theorem pe_gall (hc : X.calm = true) (hN : X.N.Nodup) (hr : Room k X.A) (hg : Gl X "all") (hm : X.mg "all" = none) (TB : LamX.TabB X.base X.mg c P) (hcode : X.env.code = .ref c) (hmT : (P, X.env.qual ++ "<genexpr>") ∈ T) (hu : ∀ p ∈ T, p.1 = P → p.2 = X.env.qual ++ "<genexpr>")
    (hi : PI X tg iter wi) (ok : BlkOk X.N X.env.scope scope own) (hno : ∀ y ∈ scope.names, y.2 ≠ .cell) (hco : scope.isCoroutine = false) (hdot : scope.names.lookup (".0" : Str) = some NameKind.local)
    (pg : ∀ s H C code fp, PG (GC X X.A.in1.in1 s H scope C code fp) tg g) (pt : ∀ s H C code fp, PTs (GC X X.A.in1.in1 s H scope C code fp) ifs tt) (pe : ∀ s H C code fp, PE (GC X X.A.in1.in1 s H scope C code fp) elt te)
    (hs : ∀ v, genFold iter X.env v = pure v) (he : starEach [.GeneratorExp elt [⟨tg, iter, ifs, 0⟩] scope gpos] X.env = (false, eval (.GeneratorExp elt [⟨tg, iter, ifs, 0⟩] scope gpos) X.env) :: starEach [] X.env := by rfl) (hb : bootBuiltins "all" = some (.builtin "all") := by rfl) :
    PE X (.Call (.Name "all" p) [.GeneratorExp elt [⟨tg, iter, ifs, 0⟩] scope gpos] [] pos) (tGAny T false wi g tt te (own.map (·.2))) := by
  refine ⟨fun pins s σ H Q I h => ?_⟩
  refine wpAny_Call_Name_kw (ld_blt I hg hm hb ?_)
  refine PyProof.Rows.callWith_builtin1 ?_ he (by rfl)
  rw [he]
  show wpAny _ _ (spliced ((false, eval (.GeneratorExp elt [⟨tg, iter, ifs, 0⟩] scope gpos) X.env) :: backTo pos (starEach [] X.env))) _ _ s
  have hd : X.A.in1.handled = none := hr.hd
  have hroom : X.A.depth < recursionLimit := by have := hr.dp; omega
  refine Calls.spliced_cons (gen_make (T := T) (wi := wi) hN hr I TB hcode hmT hu hi ok hno hco hdot hs h fun J H1 q => ⟨q.1, fun H2 eN T2 a gn s5 na rdy => Calls.spliced_nil ?_⟩)
  obtain ⟨s4, C, code, fp, it, tn, Tn, I5, st5, n5, hgs, back⟩ := rdy
  have hgen : s5.heap.IsGen a gn := (I5.hok a _ upd_same).1
  refine call_function_tree F.kind_all F.plain_all F.entry_all (F.args_all1 _) ?_
  unfold Builtin.«all»
  obtain ⟨W, ⟨m0, w0⟩, step⟩ := q.2 H2 eN T2 a gn na
  refine wpAny_bind (m := oneArg "all" _) (wpAny_pure ?_)
  refine wpAny_bind (wpAny_pyIter_gen hgen ?_)
  refine wpAny_pure ⟨plainId_quiet F.plain_all_loop _, ?_⟩
  have hP : Pend (GC X X.A.in1.in1 s4 H2 scope C code fp) (wipe σ (own.map (·.2))) fp tn (fun n m => m < n) (fun _ i m H => W i m H) (m0 + 1) s5 := ⟨0, m0, _, Nat.lt_succ_self _, I5, st5, n5, w0⟩
  refine all_loop (cx := GC X X.A.in1.in1 s4 H2 scope C code fp) (A := X.A) (σ0 := wipe σ (own.map (·.2))) (fp := fp) (tn := tn) (Bd := fun n m => m < n) (W := fun _ i m H => W i m H)
    (VV := fun _ i m y H5 => ∃ d, y = .bl d ∧ (d = false → Q (.bl false) H5) ∧ (d = (!false) → ∃ m', m' < m ∧ W (i + 1) m' H5)) (QE := fun _ H => Q (.bl (!false)) H) (a := a) (gn := gn) (fun n m h => by omega) hd hroom (fun n i m H w => (step i m H w).1) (fun n s1 ⟨H6, I6, q6⟩ => ⟨.bl _, H6, back H6 s1 I6, rfl, q6⟩)
    (fun n i m y H hmn ⟨d, e, h1, h2⟩ => ⟨d, e, fun hd s1 I6 => ⟨.bl _, H, back H s1 I6, rfl, h1 hd⟩, fun hd => by
      obtain ⟨m', hm', w'⟩ := h2 hd
      exact ⟨m', by omega, w'⟩⟩) (m0 + 1) s5 ⟨_, hgs, fun s6 hp => ⟨rfl, seg_gen0 (fun n m h => by omega) (fun n m m' h h' => by omega) hc hco Tn (pg s4 H2 C code fp) (pt s4 H2 C code fp) (pe s4 H2 C code fp) (wipe_wipe σ _) (fun n i m H w => (step i m H w).2) (m0 + 1) s6 hp⟩⟩ hP
theorem pe_gsum (hc : X.calm = true) (hN : X.N.Nodup) (hr : Room k X.A) (hg : Gl X "sum") (hm : X.mg "sum" = none) (TB : LamX.TabB X.base X.mg c P) (hcode : X.env.code = .ref c) (hmT : (P, X.env.qual ++ "<genexpr>") ∈ T) (hu : ∀ p ∈ T, p.1 = P → p.2 = X.env.qual ++ "<genexpr>")
    (hi : PI X tg iter wi) (ok : BlkOk X.N X.env.scope scope own) (hno : ∀ y ∈ scope.names, y.2 ≠ .cell) (hco : scope.isCoroutine = false) (hdot : scope.names.lookup (".0" : Str) = some NameKind.local)
    (pg : ∀ s H C code fp, PG (GC X X.A.in1.in1 s H scope C code fp) tg g) (pt : ∀ s H C code fp, PTs (GC X X.A.in1.in1 s H scope C code fp) ifs tt) (pe : ∀ s H C code fp, PE (GC X X.A.in1.in1 s H scope C code fp) elt te)
    (hs : ∀ v, genFold iter X.env v = pure v) (he : starEach [.GeneratorExp elt [⟨tg, iter, ifs, 0⟩] scope gpos] X.env = (false, eval (.GeneratorExp elt [⟨tg, iter, ifs, 0⟩] scope gpos) X.env) :: starEach [] X.env := by rfl) (hb : bootBuiltins "sum" = some (.builtin "sum") := by rfl) :
    PE X (.Call (.Name "sum" p) [.GeneratorExp elt [⟨tg, iter, ifs, 0⟩] scope gpos] [] pos) (tGSum T wi g tt te (own.map (·.2))) := by
  refine ⟨fun pins s σ H Q I h => ?_⟩
  refine wpAny_Call_Name_kw (ld_blt I hg hm hb ?_)
  refine PyProof.Rows.callWith_builtin1 ?_ he (by rfl)
  rw [he]
  show wpAny _ _ (spliced ((false, eval (.GeneratorExp elt [⟨tg, iter, ifs, 0⟩] scope gpos) X.env) :: backTo pos (starEach [] X.env))) _ _ s
  have hd : X.A.in1.handled = none := hr.hd
  have hroom : X.A.depth < recursionLimit := by have := hr.dp; omega
  refine Calls.spliced_cons (gen_make (T := T) (wi := wi) hN hr I TB hcode hmT hu hi ok hno hco hdot hs h fun J H1 q => ⟨q.1, fun H2 eN T2 a gn s5 na rdy => Calls.spliced_nil ?_⟩)
  obtain ⟨s4, C, code, fp, it, tn, Tn, I5, st5, n5, hgs, back⟩ := rdy
  have hgen : s5.heap.IsGen a gn := (I5.hok a _ upd_same).1
  refine call_function_tree F.kind_sum F.plain_sum F.entry_sum (F.args_sum1 _) ?_
  unfold Builtin.«sum»
  simp only [List.length_cons, List.length_nil]
  rw [if_neg (by decide)]
  refine wpAny_bind (wpAny_of_eq (show Builtin.Builtins.bindParams "sum" ["start"] 0 { } = pure [none] from rfl) ?_)
  refine wpAny_bind (wpAny_pyIter_gen hgen ?_)
  refine wpAny_bind (wpAny_mkInt ?_)
  refine wpAny_bind (wpAny_pure ?_)
  simp only [List.forIn_cons, List.forIn_nil]
  refine wpAny_bind (wpAny_bind (wpAny_bind (wpAny_isInstance (T := "int") (b := false) (typeIs_int _ _ _) PySem.sub_int_str ?_)))
  simp only [Bool.false_eq_true, if_false]
  refine wpAny_pure (wpAny_bind (wpAny_bind (wpAny_isInstance (T := "int") (b := false) (typeIs_int _ _ _) PySem.sub_int_bytes ?_)))
  simp only [Bool.false_eq_true, if_false]
  refine wpAny_pure (wpAny_bind (wpAny_bind (wpAny_isInstance (T := "int") (b := false) (typeIs_int _ _ _) PySem.sub_int_bytearray ?_)))
  simp only [Bool.false_eq_true, if_false]
  refine wpAny_pure (wpAny_pure ?_)
  refine wpAny_bind (wpAny_newObj_type ?_)
  generalize hS : s5.heap.objs.size = S
  have nS : upd H2 a (genO a gn) S = none := I5.hok.fresh (Nat.le_of_eq hS)
  obtain ⟨zs, W, ⟨m0, w0⟩, step⟩ := q.2 H2 eN T2 a gn na S nS
  refine wpAny_pure ⟨plainId_quiet F.plain_sum_loop _, ?_⟩
  have I6 := I5.laid (a := S) (o := .lst [.int 0]) (t' := s5.toks + 1) (h' := s5.heap.push { cls := .type "list", data := .seq ([Value.int 0 s5.toks] : List Value).toArray }) (fun b u e => Heap.get?_push_of_some _ e) (Nat.le_of_eq hS) ⟨by show 1 ≤ sizeLine; decide, [.int 0 s5.toks], 0, .cons ⟨_, rfl⟩ .nil, by rw [← hS]; exact Heap.get?_push_size _ rfl⟩
  have tk0 : (zs.take 0).sum = 0 := rfl
  have hP : Pend (GC X X.A.in1.in1 s4 H2 scope C code fp) (wipe σ (own.map (·.2))) fp tn (fun n _ => 0 < n ∧ n ≤ zs.length + 1) W (zs.length + 1) { s5 with heap := s5.heap.push { cls := .type "list", data := .seq ([Value.int 0 s5.toks] : List Value).toArray }, toks := s5.toks + 1 } :=
    ⟨0, m0, _, ⟨Nat.succ_pos _, Nat.le_refl _⟩, I6, Tn.keep _ _ _ st5 fun b _ o e => Heap.get?_push_of_some _ e, fun b hb => by
      rw [upd_ne (fun z => ?_)]
      · exact n5 b hb
      · obtain ⟨o, e, _⟩ := Tn.obj _ _ st5 b hb
        have := Heap.lt_size e
        rw [z, ← hS] at this
        exact absurd this (Nat.lt_irrefl _), w0⟩
  refine sum_loop (cx := GC X X.A.in1.in1 s4 H2 scope C code fp) (A := X.A) (σ0 := wipe σ (own.map (·.2))) (fp := fp) (tn := tn) (S := S) (Bd := fun n _ => 0 < n ∧ n ≤ zs.length + 1) (W := W)
    (VV := fun n i m y H5 => ∃ z, y = .int z ∧ zs[zs.length + 1 - n]? = some z ∧ H5 S = some (.lst [.int (zs.take (zs.length + 1 - n)).sum]) ∧ ∃ m', W (n - 1) (i + 1) m' (upd H5 S (.lst [.int ((zs.take (zs.length + 1 - n)).sum + z)]))) (QE := fun n H => n = 1 ∧ Q (.int zs.sum) H) (a := a) (gn := gn)
    (fun n => (zs.take (zs.length + 1 - n)).sum) (fun n m h => h.1) hd hroom Tn.keep ?g1 ?g2 ?g3 (zs.length + 1) _ 0 (.inl rfl) ⟨_, hgs, fun s6 hp => ⟨rfl, seg_gen0 (fun n m h => h.1) (fun n m m' h h' => h) hc hco Tn (pg s4 H2 C code fp) (pt s4 H2 C code fp) (pe s4 H2 C code fp) (wipe_wipe σ _) ?g4 (zs.length + 1) s6 hp⟩⟩ hP
  case g1 =>
    intro n i m H w
    obtain ⟨h2, h3, _⟩ := step n i m H w
    exact ⟨h2, h3⟩
  case g2 =>
    rintro n H s1 I7 ⟨rfl, q7⟩ t
    refine ⟨.int zs.sum, H, back H s1 I7, ⟨t, ?_⟩, q7⟩
    rw [Nat.add_sub_cancel, List.take_length]
  case g3 =>
    rintro n i m y H ⟨hn1, hn2⟩ ⟨z, ey, ez, eS, m', w'⟩
    have hlt : zs.length + 1 - (n + 1) < zs.length := (List.getElem?_eq_some_iff.mp ez).1
    have e2 : zs.length + 1 - n = (zs.length + 1 - (n + 1)) + 1 := by omega
    have e3 : (zs.take (zs.length + 1 - n)).sum = (zs.take (zs.length + 1 - (n + 1))).sum + z := by
      rw [e2, List.take_succ, ez]
      simp
    refine ⟨z, ey, eS, e3, m', ⟨by omega, by omega⟩, ?_⟩
    rw [e3]
    exact w'
  case g4 => exact fun n i m H w => (step n i m H w).2.2
end
end DL
set_option Elab.async false
set_option linter.all false
set_option maxRecDepth 100000
set_option maxHeartbeats 2000000
namespace DL
open PySem PySem.Spec PyProof.Rows L2
/-! ### any, all, sum of a generator expression, as mirrors -/
def anyF (stop : Bool) (put : D → Env → Option Env) (ft : Env → DS → R Bool) (fe : Env → DS → R D) (η0 : Env) : List D → DS → R D
  | [], s => .ok (.bl (!stop)) s
  | d :: ds, s => match put d η0 with
    | none => .bad
    | some η1 => (ft η1 s).nx.bind fun b s1 => if b = true then (fe η1 s1).nx.bind fun y s2 => (R.ofO (asB y) s2).bind fun t s3 => if t = stop then .ok (.bl stop) s3 else anyF stop put ft fe η0 ds s3 else anyF stop put ft fe η0 ds s1
def gAnyD (stop : Bool) (fi : Env → DS → R (List D)) (put : D → Env → Option Env) (ft : Env → DS → R Bool) (fe : Env → DS → R D) (vs : List Nat) : Env → DS → R D := fun η s => (fi η s).bind fun ds s1 => anyF stop put ft fe (wipeE η vs) ds s1
def gSumD (fi : Env → DS → R (List D)) (put : D → Env → Option Env) (ft : Env → DS → R Bool) (fe : Env → DS → R D) (vs : List Nat) : Env → DS → R D := fun η s => (fi η s).bind fun ds s1 => (lcF put ft fe (wipeE η vs) ds s1).bind fun ys s2 => (R.ofO (intsOf ys) s2).bind fun zs s3 => .ok (.int zs.sum) s3
section
variable {M : Mp} {X : Cx} {W : WX}
theorem gblk_e {scope : Scope} {elt : Expr} {fe : Env → DS → R D} (h : ∀ s H C code fp, DE M (GC X X.A.in1.in1 s H scope C code fp) W0 elt fe) : ∃ te : TE, (∀ s H C code fp, PE (GC X X.A.in1.in1 s H scope C code fp) elt te) ∧ EEx M X W0 te fe := by
  refine ⟨fun σ H Q => ∀ s H0 C cl fp, Classical.choose (h s H0 C cl fp).ex σ H Q, fun s H0 C cl fp => ⟨fun pins s1 σ H Q I hw => (Classical.choose_spec (h s H0 C cl fp).ex).1.run pins s1 σ H Q I (hw s H0 C cl fp)⟩, ?_⟩
  intro A σ H G hs own η s Q I r s0 H0 C cl fp
  exact (Classical.choose_spec (h s0 H0 C cl fp).ex).2 A σ H G hs own η s Q I r
theorem gblk_t {scope : Scope} {ifs : List Expr} {ft : Env → DS → R Bool} (h : ∀ s H C code fp, DTs M (GC X X.A.in1.in1 s H scope C code fp) W0 ifs ft) : ∃ tt : TT, (∀ s H C code fp, PTs (GC X X.A.in1.in1 s H scope C code fp) ifs tt) ∧ TEx M X W0 tt ft := by
  refine ⟨fun σ H Q => ∀ s H0 C cl fp, Classical.choose (h s H0 C cl fp).ex σ H Q, fun s H0 C cl fp => ⟨fun pins s1 σ H Q I hw => (Classical.choose_spec (h s H0 C cl fp).ex).1.run pins s1 σ H Q I (hw s H0 C cl fp)⟩, ?_⟩
  intro A σ H G hs own η s Q I r s0 H0 C cl fp
  exact (Classical.choose_spec (h s0 H0 C cl fp).ex).2 A σ H G hs own η s Q I r
theorem gblk_g {scope : Scope} {tg : Expr} {put : D → Env → Option Env} {is : List Nat} (h : ∀ s H C code fp, DG M (GC X X.A.in1.in1 s H scope C code fp) tg put is) : ∃ g : TG, (∀ s H C code fp, PG (GC X X.A.in1.in1 s H scope C code fp) tg g) ∧ GEx M X g put is := by
  refine ⟨fun v σ H Q => ∀ s H0 C cl fp, Classical.choose (h s H0 C cl fp).ex v σ H Q, fun s H0 C cl fp => ⟨fun pins s1 σ H v u Q I r hw => (Classical.choose_spec (h s H0 C cl fp).ex).1.run pins s1 σ H v u Q I r (hw s H0 C cl fp)⟩, ?_⟩
  intro A σ H G hs own η η' s d v Q I hr e k s0 H0 C cl fp
  exact (Classical.choose_spec (h s0 H0 C cl fp).ex).2 A σ H G hs own η η' s d v Q I hr e k
theorem gany_sem {wi : TI} {g : TG} {tt : TT} {te : TE} {vs is : List Nat} {fi : Env → DS → R (List D)} {put : D → Env → Option Env} {ft : Env → DS → R Bool} {fe : Env → DS → R D} (stop : Bool)
    (ki : ∀ (A : Anc) (σ : L2.St) (H G : Hp) (hs : List Addr) (own : Nat → Addr) (η : Env) (s : DS) (Q : It → Hp → Prop), Sm X.K M A σ H G hs own η s → RPost X.K M σ W G hs H (fi η s) (fun ds G' hs' _ H' => ∀ J, ItS X.K M G' hs' H' J ds → Q J H') → wi σ H Q)
    (kg : GEx M X g put is) (kt : TEx M X W0 tt ft) (ke : EEx M X W0 te fe) (hv : (is.all fun j => vs.contains j) = true) : EEx M X W (tGAny M.tabs stop wi g tt te vs) (gAnyD stop fi put ft fe vs) := by
  intro A σ H0 G0 hs0 own η s0 Q I0 hp
  refine ki A σ H0 G0 hs0 own η s0 _ I0 (hp.bind.mono fun ds G1 hs1 s1 H1 S1 J1 h1 J hJ => ⟨J1.tab, fun H2 eN T2 a gn na => ?_⟩)
  have I1 := I0.step S1 J1
  obtain ⟨Sx, Jx⟩ := extN_step J1 eN T2
  obtain ⟨fa1, fa2, fa3⟩ := Jx.free na
  have ext : ∀ b u, H2 b = some u → upd H2 a (genO a gn) b = some u := fun b u e => by rw [upd_ne (ne_of_none e na)]; exact e
  have no : ∀ ps, genO a gn ≠ HO.tbl ps := fun ps z => by cases z
  have his : ∀ j ∈ is, j ∈ vs := fun j hj => List.contains_iff_mem.mp (List.all_eq_true.mp hv j hj)
  refine ⟨fun i m H => ∃ G hs s, Stp M G1 hs1 H1 G hs H ∧ Sim X.K M G hs s H ∧ H a = some (genO a gn) ∧ G a = none ∧ a ∉ hs ∧ i ≤ ds.length ∧ m = ds.length - i ∧
    RPost X.K M σ W G hs H (anyF stop put ft fe (wipeE η vs) (ds.drop i) s) (fun d G' hs' s' H' => ∀ v, Rep X.K M G' hs' d v → Q v H'),
    ⟨ds.length, G1, hs1, s1, Sx.trans (Stp.extH ext), Jx.extH ext, upd_same, fa1, fa2, Nat.zero_le _, rfl, RPost.step (Sx.trans (Stp.extH ext)) h1⟩, ?_⟩
  rintro i m H ⟨G, hs, s, S, J2, ea, gA, nA, hi, rfl, hr⟩
  refine ⟨ea, ?_⟩
  obtain ⟨stp, go⟩ := hJ G hs s H S J2 i
  cases q : ds[i]? with
  | none =>
    have hn : ds.drop i = [] := List.drop_eq_nil_of_le (List.getElem?_eq_none_iff.mp q)
    rw [hn] at hr
    exact .inl ⟨stp q, hr G hs H (Stp.refl _ _ _ _) J2 _ (rep_bl.mpr rfl)⟩
  | some d =>
    have hlt : i < ds.length := (List.getElem?_eq_some_iff.mp q).1
    obtain ⟨go1, go2⟩ := go d q
    have hd : ds.drop i = d :: ds.drop (i + 1) := by
      rw [List.drop_eq_getElem_cons hlt]
      congr 1
      rw [List.getElem?_eq_getElem hlt] at q
      exact Option.some.inj q
    rw [hd, anyF] at hr
    refine .inr ⟨go1, fun x H2' y => ?_⟩
    obtain ⟨G2, S2, J3, hx⟩ := go2 x H2' y
    have a2 := S2.away ea nA gA no
    have e2 := S2.kp _ _ ea nA no
    have SS2 := S.trans S2
    split at hr
    · exact hr.elim
    rename_i η1 e1
    have I2 := (I1.step SS2 J3).wipe vs
    refine kg A _ H2' G2 hs own _ η1 s d x _ I2 hx e1 fun σ2 I3 chg => ⟨wipe_eq chg his, ?_⟩
    refine kt A σ2 H2' G2 hs own η1 s _ I3 ?_
    cases qt : ft η1 s with
    | ex c p s' => rw [qt] at hr; exact hr.elim
    | bad => rw [qt] at hr; exact hr.elim
    | ok b s3 =>
      rw [qt] at hr
      intro G3 hs3 H3 S3 J4
      have a3 := S3.away e2 a2.2 a2.1 no
      have e3 := S3.kp _ _ e2 a2.2 no
      have SS3 := SS2.trans S3
      have hr2 : RPost X.K M σ W G hs H (if b = true then (fe η1 s3).nx.bind fun y s2 => (R.ofO (asB y) s2).bind fun t s3 => if t = stop then .ok (.bl stop) s3 else anyF stop put ft fe (wipeE η vs) (ds.drop (i + 1)) s3 else anyF stop put ft fe (wipeE η vs) (ds.drop (i + 1)) s3) _ := hr
      cases b with
      | false =>
        rw [if_neg Bool.false_ne_true] at hr2 ⊢
        exact ⟨ds.length - (i + 1), by omega, G3, hs3, s3, SS3, J4, e3, a3.1, a3.2, hlt, rfl, RPost.step (S2.trans S3) hr2⟩
      | true =>
        rw [if_pos rfl] at hr2 ⊢
        have I4 := I3.step S3 J4
        refine ke A σ2 H3 G3 hs3 own η1 s3 _ I4 ?_
        cases qe : fe η1 s3 with
        | ex c p s' => rw [qe] at hr2; exact hr2.elim
        | bad => rw [qe] at hr2; exact hr2.elim
        | ok z s4 =>
          rw [qe] at hr2
          intro G4 hs4 H4 S4 J5 v hv
          have a4 := S4.away e3 a3.2 a3.1 no
          have e4 := S4.kp _ _ e3 a3.2 no
          have SS4 := SS3.trans S4
          have hr3 : RPost X.K M σ W G hs H ((R.ofO (asB z) s4).bind fun t s3 => if t = stop then .ok (.bl stop) s3 else anyF stop put ft fe (wipeE η vs) (ds.drop (i + 1)) s3) _ := hr2
          obtain ⟨t, et, k⟩ := hr3.bind.ofO
          have k2 := k G4 hs4 H4 ((S2.trans S3).trans S4) J5
          rw [asB_some et] at hv
          refine ⟨t, rep_bl.mp hv, fun ht => ?_, fun ht => ?_⟩
          · rw [if_pos ht] at k2
            exact k2 G4 hs4 H4 (Stp.refl _ _ _ _) J5 _ (rep_bl.mpr rfl)
          · rw [if_neg (by rw [ht]; cases stop <;> decide)] at k2
            exact ⟨ds.length - (i + 1), by omega, G4, hs4, s4, SS4, J5, e4, a4.1, a4.2, hlt, rfl, k2⟩
theorem lcF_noex {put : D → Env → Option Env} {ft : Env → DS → R Bool} {fe : Env → DS → R D} {η : Env} : ∀ {ds : List D} {s : DS} {c : Nat} {p : List D} {s' : DS}, lcF put ft fe η ds s ≠ .ex c p s'
  | [], s, c, p, s', h => by cases h
  | d :: ds, s, c, p, s', h => by
    rw [lcF] at h
    split at h
    · cases h
    · rename_i η1 _
      cases qt : ft η1 s with
      | ex _ _ _ => rw [qt] at h; cases h
      | bad => rw [qt] at h; cases h
      | ok b s1 =>
        rw [qt] at h
        have h2 : (if b = true then (fe η1 s1).nx.bind fun y s2 => (lcF put ft fe η ds s2).bind fun ys s3 => .ok (y :: ys) s3 else lcF put ft fe η ds s1) = R.ex c p s' := h
        cases b with
        | false => rw [if_neg Bool.false_ne_true] at h2; exact lcF_noex h2
        | true =>
          rw [if_pos rfl] at h2
          cases qe : fe η1 s1 with
          | ex _ _ _ => rw [qe] at h2; cases h2
          | bad => rw [qe] at h2; cases h2
          | ok y s2 =>
            rw [qe] at h2
            have h3 : ((lcF put ft fe η ds s2).bind fun ys s3 => R.ok (y :: ys) s3) = R.ex c p s' := h2
            cases ql : lcF put ft fe η ds s2 with
            | ok _ _ => rw [ql] at h3; cases h3
            | bad => rw [ql] at h3; cases h3
            | ex _ _ _ => exact lcF_noex ql
theorem gsum_sem {wi : TI} {g : TG} {tt : TT} {te : TE} {vs is : List Nat} {fi : Env → DS → R (List D)} {put : D → Env → Option Env} {ft : Env → DS → R Bool} {fe : Env → DS → R D}
    (ki : ∀ (A : Anc) (σ : L2.St) (H G : Hp) (hs : List Addr) (own : Nat → Addr) (η : Env) (s : DS) (Q : It → Hp → Prop), Sm X.K M A σ H G hs own η s → RPost X.K M σ W G hs H (fi η s) (fun ds G' hs' _ H' => ∀ J, ItS X.K M G' hs' H' J ds → Q J H') → wi σ H Q)
    (kg : GEx M X g put is) (kt : TEx M X W0 tt ft) (ke : EEx M X W0 te fe) (hv : (is.all fun j => vs.contains j) = true) : EEx M X W (tGSum M.tabs wi g tt te vs) (gSumD fi put ft fe vs) := by
  intro A σ H0 G0 hs0 own η s0 Q I0 hp
  refine ki A σ H0 G0 hs0 own η s0 _ I0 (hp.bind.mono fun ds G1 hs1 s1 H1 S1 J1 h1 J hJ => ⟨J1.tab, fun H2 eN T2 a gn na S nS => ?_⟩)
  have I1 := I0.step S1 J1
  obtain ⟨Sx, Jx⟩ := extN_step J1 eN T2
  have ext : ∀ b u, H2 b = some u → upd H2 a (genO a gn) b = some u := fun b u e => by rw [upd_ne (ne_of_none e na)]; exact e
  have no : ∀ ps, genO a gn ≠ HO.tbl ps := fun ps z => by cases z
  have Ja := Jx.extH ext
  have Sa := Sx.trans (Stp.extH (M := M) (G := G1) (hs := hs1) ext)
  obtain ⟨fS1, fS2, fS3⟩ := Ja.free nS
  have extS : ∀ b u, upd H2 a (genO a gn) b = some u → upd (upd H2 a (genO a gn)) S (.lst [.int 0]) b = some u := fun b u e => by rw [upd_ne (ne_of_none e nS)]; exact e
  have neaS : a ≠ S := fun z => by rw [← z, upd_same] at nS; cases nS
  obtain ⟨fa1, fa2, fa3⟩ := Jx.free na
  have his : ∀ j ∈ is, j ∈ vs := fun j hj => List.contains_iff_mem.mp (List.all_eq_true.mp hv j hj)
  -- all that is summed
  cases el : lcF put ft fe (wipeE η vs) ds s1 with
  | ex c p s' => exact absurd el lcF_noex
  | bad => exfalso; rw [el] at h1; exact h1
  | ok ys sE =>
    rw [el] at h1
    have h2 : RPost X.K M σ W G1 hs1 H1 ((R.ofO (intsOf ys) sE).bind fun zs s3 => .ok (.int zs.sum) s3) (fun d G' hs' s' H' => ∀ v, Rep X.K M G' hs' d v → Q v H') := h1
    cases ez : intsOf ys with
    | none => exfalso; rw [ez] at h2; exact h2
    | some zs =>
      rw [ez] at h2
      have hQ : ∀ G' hs' H', Stp M G1 hs1 H1 G' hs' H' → Sim X.K M G' hs' sE H' → Q (.int zs.sum) H' := fun G' hs' H' S' J' => h2 G' hs' H' S' J' _ (rep_int.mpr rfl)
      have eys := intsOf_some ez
      refine ⟨zs, fun n i m H => ∃ G hs s, Stp M G1 hs1 H1 G hs H ∧ Sim X.K M G hs s H ∧ H a = some (genO a gn) ∧ G a = none ∧ a ∉ hs ∧ H S = some (.lst [.int (zs.take (zs.length + 1 - n)).sum]) ∧ G S = none ∧ S ∉ hs ∧ 0 < n ∧ n ≤ zs.length + 1 ∧ i ≤ ds.length ∧ m = ds.length - i ∧
        lcF put ft fe (wipeE η vs) (ds.drop i) s = .ok (ys.drop (zs.length + 1 - n)) sE,
        ⟨ds.length, G1, hs1, s1, Sa.trans (Stp.extH extS), Ja.extH extS, by rw [upd_ne neaS, upd_same], fa1, fa2, by rw [upd_same, Nat.sub_self]; rfl, fS1, fS2, Nat.succ_pos _, Nat.le_refl _, Nat.zero_le _, rfl, by rw [Nat.sub_self]; exact el⟩, ?_⟩
      rintro n i m H ⟨G, hs, s, St, J2, ea, gA, nA, eS, gS, nSh, hn0, hn1, hi, rfl, hr⟩
      refine ⟨ea, eS, ?_⟩
      have noS : ∀ (l : List V) ps, HO.lst l ≠ HO.tbl ps := fun l ps z => by cases z
      have elen : ys.length = zs.length := by rw [eys, List.length_map]
      obtain ⟨stp, go⟩ := hJ G hs s H St J2 i
      cases q : ds[i]? with
      | none =>
        have hn : ds.drop i = [] := List.drop_eq_nil_of_le (List.getElem?_eq_none_iff.mp q)
        rw [hn, lcF] at hr
        injection hr with e1 e2
        have e3 : (ys.drop (zs.length + 1 - n)).length = 0 := by rw [← e1]; rfl
        rw [List.length_drop, elen] at e3
        subst e2
        exact .inl ⟨stp q, by omega, hQ G hs H St J2⟩
      | some d =>
        have hlt : i < ds.length := (List.getElem?_eq_some_iff.mp q).1
        obtain ⟨go1, go2⟩ := go d q
        have hd : ds.drop i = d :: ds.drop (i + 1) := by
          rw [List.drop_eq_getElem_cons hlt]
          congr 1
          rw [List.getElem?_eq_getElem hlt] at q
          exact Option.some.inj q
        rw [hd, lcF] at hr
        refine .inr ⟨go1, fun x H2' y => ?_⟩
        obtain ⟨G2, S2, J3, hx⟩ := go2 x H2' y
        have a2 := S2.away ea nA gA no
        have e2 := S2.kp _ _ ea nA no
        have b2 := S2.away eS nSh gS (noS _)
        have d2 := S2.kp _ _ eS nSh (noS _)
        have SS2 := St.trans S2
        split at hr
        · cases hr
        rename_i η1 e1
        have I2 := (I1.step SS2 J3).wipe vs
        refine kg A _ H2' G2 hs own _ η1 s d x _ I2 hx e1 fun σ2 I3 chg => ⟨wipe_eq chg his, ?_⟩
        refine kt A σ2 H2' G2 hs own η1 s _ I3 ?_
        cases qt : ft η1 s with
        | ex c p s' => rw [qt] at hr; cases hr
        | bad => rw [qt] at hr; cases hr
        | ok b s3 =>
          rw [qt] at hr
          intro G3 hs3 H3 S3 J4
          have a3 := S3.away e2 a2.2 a2.1 no
          have e3 := S3.kp _ _ e2 a2.2 no
          have b3 := S3.away d2 b2.2 b2.1 (noS _)
          have d3 := S3.kp _ _ d2 b2.2 (noS _)
          have SS3 := SS2.trans S3
          have hr2 : (if b = true then (fe η1 s3).nx.bind fun y s2 => (lcF put ft fe (wipeE η vs) (ds.drop (i + 1)) s2).bind fun ys s3 => .ok (y :: ys) s3 else lcF put ft fe (wipeE η vs) (ds.drop (i + 1)) s3) = R.ok (ys.drop (zs.length + 1 - n)) sE := hr
          cases b with
          | false =>
            rw [if_neg Bool.false_ne_true] at hr2 ⊢
            exact ⟨ds.length - (i + 1), by omega, G3, hs3, s3, SS3, J4, e3, a3.1, a3.2, d3, b3.1, b3.2, hn0, hn1, hlt, rfl, hr2⟩
          | true =>
            rw [if_pos rfl] at hr2 ⊢
            have I4 := I3.step S3 J4
            refine ke A σ2 H3 G3 hs3 own η1 s3 _ I4 ?_
            cases qe : fe η1 s3 with
            | ex c p s' => rw [qe] at hr2; cases hr2
            | bad => rw [qe] at hr2; cases hr2
            | ok z s4 =>
              rw [qe] at hr2
              intro G4 hs4 H4 S4 J5 v hv
              have a4 := S4.away e3 a3.2 a3.1 no
              have e4 := S4.kp _ _ e3 a3.2 no
              have b4 := S4.away d3 b3.2 b3.1 (noS _)
              have d4 := S4.kp _ _ d3 b3.2 (noS _)
              have SS4 := SS3.trans S4
              have hr3 : ((lcF put ft fe (wipeE η vs) (ds.drop (i + 1)) s4).bind fun ys s3 => R.ok (z :: ys) s3) = R.ok (ys.drop (zs.length + 1 - n)) sE := hr2
              cases ql : lcF put ft fe (wipeE η vs) (ds.drop (i + 1)) s4 with
              | ex c p s' => rw [ql] at hr3; cases hr3
              | bad => rw [ql] at hr3; cases hr3
              | ok yr s5 =>
                rw [ql] at hr3
                injection hr3 with k1 k2
                subst k2
                have hl2 : zs.length + 1 - n < ys.length := by
                  have : (ys.drop (zs.length + 1 - n)).length = yr.length + 1 := by rw [← k1]; rfl
                  rw [List.length_drop] at this
                  omega
                rw [List.drop_eq_getElem_cons hl2] at k1
                injection k1 with k3 k4
                have hz : ∃ zi, zs[zs.length + 1 - n]? = some zi ∧ z = .int zi := by
                  rw [elen] at hl2
                  refine ⟨zs[zs.length + 1 - n], List.getElem?_eq_getElem hl2, ?_⟩
                  rw [k3]
                  simp only [eys, List.getElem_map]
                obtain ⟨zi, hz1, rfl⟩ := hz
                rw [elen] at hl2
                have en : zs.length + 1 - (n - 1) = zs.length + 1 - n + 1 := by omega
                refine ⟨zi, rep_int.mp hv, hz1, d4, ds.length - (i + 1), G4, hs4, s4, ?_, J5.updU b4.1 b4.2 fS3 (by rw [d4]; exact fun f z => by cases z), ?_, a4.1, a4.2, ?_, b4.1, b4.2, by omega, by omega, hlt, rfl, ?_⟩
                · refine ⟨SS4.gg, SS4.fr, SS4.hp, SS4.hf, fun b u e nb t => ?_, fun b e => ?_⟩
                  · have hbS : b ≠ S := fun z => by
                      have h9 := Sa.kp b u e nb t
                      rw [z, nS] at h9
                      cases h9
                    rw [upd_ne hbS]
                    exact SS4.kp b u e nb t
                  · by_cases z : b = S
                    · rw [z]
                      exact Sa.dm S (nt_none nS)
                    · exact SS4.dm b fun u q => e u (by rw [upd_ne z]; exact q)
                · rw [upd_ne neaS]
                  exact e4
                · rw [upd_same, en, List.take_succ, hz1]
                  simp
                · rw [ql, en, k4]
theorem genC_of {N : List Str} {sc scope : Scope} {own : List (Str × Nat)} (h : genC N sc scope own = true) : BlkOk N sc scope own ∧ (∀ y ∈ scope.names, y.2 ≠ .cell) ∧ scope.isCoroutine = false ∧ scope.names.lookup (".0" : Str) = some NameKind.local := by
  unfold genC at h
  simp only [Bool.and_eq_true, List.all_eq_true, bne_iff_ne, beq_iff_eq] at h
  exact ⟨blkOk_by h.1.1.1, h.1.1.2, h.1.2, h.2⟩
section
variable {c P : Addr} {k : Nat} {tg elt iter : Expr} {ifs : List Expr} {scope : Scope} {own : List (Str × Nat)} {gpos p pos : Pos} {is : List Nat} {fi : Env → DS → R (List D)} {put : D → Env → Option Env} {ft : Env → DS → R Bool} {fe : Env → DS → R D}
theorem de_gany (hc : X.calm = true) (hN : X.N.Nodup) (hr : Room k X.A) (hm : X.mg "any" = none) (TB : LamX.TabB X.base X.mg c P) (hcode : X.env.code = .ref c) (hmT : (P, X.env.qual ++ "<genexpr>") ∈ M.tabs) (hu : ∀ p ∈ M.tabs, p.1 = P → p.2 = X.env.qual ++ "<genexpr>")
    (hi : DIS M X W tg iter fi) (ok : genC X.N X.env.scope scope own = true) (hgt : ∀ s H C code fp, DG M (GC X X.A.in1.in1 s H scope C code fp) tg put is) (ht : ∀ s H C code fp, DTs M (GC X X.A.in1.in1 s H scope C code fp) W0 ifs ft) (he : ∀ s H C code fp, DE M (GC X X.A.in1.in1 s H scope C code fp) W0 elt fe)
    (hv : (is.all fun j => (own.map (·.2)).contains j) = true := by rfl) (hs : ∀ v, genFold iter X.env v = pure v := by intro _; rfl) (hg : Gl X "any" := by rfl) (hst : starEach [.GeneratorExp elt [⟨tg, iter, ifs, 0⟩] scope gpos] X.env = (false, eval (.GeneratorExp elt [⟨tg, iter, ifs, 0⟩] scope gpos) X.env) :: starEach [] X.env := by rfl) :
    DE M X W (.Call (.Name "any" p) [.GeneratorExp elt [⟨tg, iter, ifs, 0⟩] scope gpos] [] pos) (gAnyD true fi put ft fe (own.map (·.2))) := by
  obtain ⟨wi, pi, ki⟩ := hi.ex
  obtain ⟨g, pg, kg⟩ := gblk_g hgt
  obtain ⟨tt, pt, kt⟩ := gblk_t ht
  obtain ⟨te, pe, ke⟩ := gblk_e he
  obtain ⟨b1, b2, b3, b4⟩ := genC_of ok
  exact ⟨_, pe_gany hc hN hr hg hm TB hcode hmT hu pi b1 b2 b3 b4 pg pt pe hs hst, gany_sem (true) ki kg kt ke hv⟩
theorem de_gall (hc : X.calm = true) (hN : X.N.Nodup) (hr : Room k X.A) (hm : X.mg "all" = none) (TB : LamX.TabB X.base X.mg c P) (hcode : X.env.code = .ref c) (hmT : (P, X.env.qual ++ "<genexpr>") ∈ M.tabs) (hu : ∀ p ∈ M.tabs, p.1 = P → p.2 = X.env.qual ++ "<genexpr>")
    (hi : DIS M X W tg iter fi) (ok : genC X.N X.env.scope scope own = true) (hgt : ∀ s H C code fp, DG M (GC X X.A.in1.in1 s H scope C code fp) tg put is) (ht : ∀ s H C code fp, DTs M (GC X X.A.in1.in1 s H scope C code fp) W0 ifs ft) (he : ∀ s H C code fp, DE M (GC X X.A.in1.in1 s H scope C code fp) W0 elt fe)
    (hv : (is.all fun j => (own.map (·.2)).contains j) = true := by rfl) (hs : ∀ v, genFold iter X.env v = pure v := by intro _; rfl) (hg : Gl X "all" := by rfl) (hst : starEach [.GeneratorExp elt [⟨tg, iter, ifs, 0⟩] scope gpos] X.env = (false, eval (.GeneratorExp elt [⟨tg, iter, ifs, 0⟩] scope gpos) X.env) :: starEach [] X.env := by rfl) :
    DE M X W (.Call (.Name "all" p) [.GeneratorExp elt [⟨tg, iter, ifs, 0⟩] scope gpos] [] pos) (gAnyD false fi put ft fe (own.map (·.2))) := by
  obtain ⟨wi, pi, ki⟩ := hi.ex
  obtain ⟨g, pg, kg⟩ := gblk_g hgt
  obtain ⟨tt, pt, kt⟩ := gblk_t ht
  obtain ⟨te, pe, ke⟩ := gblk_e he
  obtain ⟨b1, b2, b3, b4⟩ := genC_of ok
  exact ⟨_, pe_gall hc hN hr hg hm TB hcode hmT hu pi b1 b2 b3 b4 pg pt pe hs hst, gany_sem (false) ki kg kt ke hv⟩
theorem de_gsum (hc : X.calm = true) (hN : X.N.Nodup) (hr : Room k X.A) (hm : X.mg "sum" = none) (TB : LamX.TabB X.base X.mg c P) (hcode : X.env.code = .ref c) (hmT : (P, X.env.qual ++ "<genexpr>") ∈ M.tabs) (hu : ∀ p ∈ M.tabs, p.1 = P → p.2 = X.env.qual ++ "<genexpr>")
    (hi : DIS M X W tg iter fi) (ok : genC X.N X.env.scope scope own = true) (hgt : ∀ s H C code fp, DG M (GC X X.A.in1.in1 s H scope C code fp) tg put is) (ht : ∀ s H C code fp, DTs M (GC X X.A.in1.in1 s H scope C code fp) W0 ifs ft) (he : ∀ s H C code fp, DE M (GC X X.A.in1.in1 s H scope C code fp) W0 elt fe)
    (hv : (is.all fun j => (own.map (·.2)).contains j) = true := by rfl) (hs : ∀ v, genFold iter X.env v = pure v := by intro _; rfl) (hg : Gl X "sum" := by rfl) (hst : starEach [.GeneratorExp elt [⟨tg, iter, ifs, 0⟩] scope gpos] X.env = (false, eval (.GeneratorExp elt [⟨tg, iter, ifs, 0⟩] scope gpos) X.env) :: starEach [] X.env := by rfl) :
    DE M X W (.Call (.Name "sum" p) [.GeneratorExp elt [⟨tg, iter, ifs, 0⟩] scope gpos] [] pos) (gSumD fi put ft fe (own.map (·.2))) := by
  obtain ⟨wi, pi, ki⟩ := hi.ex
  obtain ⟨g, pg, kg⟩ := gblk_g hgt
  obtain ⟨tt, pt, kt⟩ := gblk_t ht
  obtain ⟨te, pe, ke⟩ := gblk_e he
  obtain ⟨b1, b2, b3, b4⟩ := genC_of ok
  exact ⟨_, pe_gsum hc hN hr hg hm TB hcode hmT hu pi b1 b2 b3 b4 pg pt pe hs hst, gsum_sem ki kg kt ke hv⟩
end
end
section
variable {X : Cx} {M : Mp}
theorem room_gen {k : Nat} {A : Around} {env : PySem.Env} (r : Room (k + 1) A) : Room k (A.in1.in1.deeper env) :=
  ⟨r.hd, by have := r.dp; show A.depth + 1 + 3 * k + 5 < _; omega, by have := r.un; show A.units + 1 + 1 + 3 + 16 * k + 200 < _; omega⟩
theorem genE {s : Shared} {H : Hp} {scope : Scope} {C : Addr} {code : Value} {fp : List Addr} {k : Nat} {e : Expr} {fb : Env → DS → R D} (hr : Room (k + 1) X.A)
    (h : Room k (GC X X.A.in1.in1 s H scope C code fp).A → (GC X X.A.in1.in1 s H scope C code fp).A.units + 64 < cLine → Takes (GC X X.A.in1.in1 s H scope C code fp) W0 → Flat W0 → DE M (GC X X.A.in1.in1 s H scope C code fp) W0 e fb) : DE M (GC X X.A.in1.in1 s H scope C code fp) W0 e fb :=
  h (room_gen hr) (room_gen hr).units L2.takes0 (fun _ _ _ _ _ z => z)
theorem genT {s : Shared} {H : Hp} {scope : Scope} {C : Addr} {code : Value} {fp : List Addr} {k : Nat} {e : List Expr} {fb : Env → DS → R Bool} (hr : Room (k + 1) X.A)
    (h : Room k (GC X X.A.in1.in1 s H scope C code fp).A → (GC X X.A.in1.in1 s H scope C code fp).A.units + 64 < cLine → Takes (GC X X.A.in1.in1 s H scope C code fp) W0 → Flat W0 → DTs M (GC X X.A.in1.in1 s H scope C code fp) W0 e fb) : DTs M (GC X X.A.in1.in1 s H scope C code fp) W0 e fb :=
  h (room_gen hr) (room_gen hr).units L2.takes0 (fun _ _ _ _ _ z => z)
end
end DL
set_option Elab.async false
set_option linter.all false
set_option maxRecDepth 100000
set_option maxHeartbeats 2000000
namespace DL
open PySem PySem.Spec PyProof.Rows L2
/-! ### zip, enumerate, the signs of a text -/
def zipL : List D → List D → List D
  | a :: l, b :: m => .tup [a, b] :: zipL l m
  | _, _ => []
theorem zipL_get : ∀ {l m : List D} {i : Nat} {a b : D}, l[i]? = some a → m[i]? = some b → (zipL l m)[i]? = some (.tup [a, b])
  | x :: l, y :: m, 0, a, b, h, g => by simp at h g; subst h g; rfl
  | x :: l, y :: m, i + 1, a, b, h, g => by
    rw [zipL, List.getElem?_cons_succ]
    exact zipL_get (by simpa using h) (by simpa using g)
  | [], _, i, _, _, h, _ => by simp at h
  | _ :: _, [], i, _, _, _, h => by simp at h
theorem zipL_inv : ∀ {l m : List D} {i : Nat} {d : D}, (zipL l m)[i]? = some d → ∃ a b, l[i]? = some a ∧ m[i]? = some b ∧ d = .tup [a, b]
  | x :: l, y :: m, 0, d, h => by simp [zipL] at h; exact ⟨x, y, rfl, rfl, h.symm⟩
  | x :: l, y :: m, i + 1, d, h => by
    rw [zipL, List.getElem?_cons_succ] at h
    simpa using zipL_inv h
  | [], _, i, _, h => by simp [zipL] at h
  | _ :: _, [], i, _, h => by simp [zipL] at h
def enumL (k : Int) : List D → List D
  | [] => []
  | d :: l => .tup [.int k, d] :: enumL (k + 1) l
theorem enumL_get : ∀ {l : List D} {k : Int} {i : Nat}, (enumL k l)[i]? = (l[i]?).map fun d => D.tup [.int (k + i), d]
  | [], k, i => by simp [enumL]
  | d :: l, k, 0 => by simp [enumL]
  | d :: l, k, i + 1 => by
    rw [enumL, List.getElem?_cons_succ, List.getElem?_cons_succ, enumL_get]
    have e : k + 1 + (i : Int) = k + ((i + 1 : Nat) : Int) := by omega
    rw [e]
def seqO : D → Option (Bool × List D)
  | .lst l => some (true, l)
  | .scr l => some (true, l.map D.int)
  | .tup l => some (false, l)
  | _ => none
noncomputable def zipO : List D → Option (List D)
  | [a, b] => (match seqO a, seqO b with
    | some (k, l), some (k', m) => if k = k' then some (zipL l m) else none
    | _, _ => none)
  | _ => none
def enumO : List D → Option (List D)
  | [.lst l] => some (enumL 0 l)
  | [.scr l] => some (enumL 0 (l.map D.int))
  | _ => none
section
variable {M : Mp} {X : Cx} {W : WX} {K : PySem.W.Frag}
/-- a still sequence, as the walk sees it: k: a list -/
def Stl (K : PySem.W.Frag) (G : Hp) (k : Bool) (a : Addr) (vs : List V) : Prop := if k = true then SqL K G a vs else SqT K G a vs
theorem rep_seq {G : Hp} {hs : List Addr} {d : D} {v : V} {k : Bool} {l : List D} (h : Rep K M G hs d v) (e : seqO d = some (k, l)) : ∃ a vs, v = .ref a ∧ Stl K G k a vs ∧ RepL K M G hs l vs := by
  unfold seqO at e
  split at e
  · cases e
    obtain ⟨a, vs, rfl, h1, h2⟩ := rep_lst.mp h
    exact ⟨a, vs, rfl, SqL.of h1, h2⟩
  · cases e
    obtain ⟨a, rfl, h1⟩ := rep_scr.mp h
    exact ⟨a, _, rfl, h1, RepL.ints.mpr rfl⟩
  · cases e
    obtain ⟨a, vs, rfl, h1, h2⟩ := rep_tup.mp h
    exact ⟨a, vs, rfl, h1, h2⟩
  · cases e
theorem Stl.same {G G' : Hp} {k : Bool} {a : Addr} {vs : List V} (e : Same G G') (h : Stl K G k a vs) : Stl K G' k a vs := by
  unfold Stl at h ⊢
  cases k with
  | true => exact e.seq h
  | false => exact same_seqT e h
theorem rep_two {G : Hp} {hs : List Addr} {p : Addr} {a b : D} {x y : V} (g : G p = none) (ha : Rep K M G hs a x) (hb : Rep K M G hs b y) : Rep K M (upd G p (.tup [x, y])) hs (.tup [a, b]) (.ref p) := rep_newT g (repL_cons.mpr ⟨x, [y], rfl, ha, repL_cons.mpr ⟨y, [], rfl, hb, repL_nil.mpr rfl⟩⟩)
theorem sqT_uniq {H : Hp} {a : Addr} {xs : List V} {i : Nat} {x : V} (h : SqT K H a xs) (k : ∀ xs, SqT K H a xs → xs[i]? = some x) : xs[i]? = some x := k xs h
theorem itz_c {G : Hp} {hs : List Addr} {a b : Addr} {xs ys : List V} {l m : List D} (h1 : SqL K G a xs) (h2 : SqL K G b ys) (r1 : RepL K M G hs l xs) (r2 : RepL K M G hs m ys) : ItC K M G hs (Itz K a b) (zipL l m) := by
  intro G2 hs2 s2 H2 gg pp J2 i
  have g1 := J2.sub.seq (gg.seq h1)
  have g2 := J2.sub.seq (gg.seq h2)
  refine ⟨fun e => ⟨xs, ys, g1, g2, ?_⟩, fun d e => ?_⟩
  · rw [← r1.length, ← r2.length]
    rcases Nat.lt_or_ge i l.length with q | q
    · rcases Nat.lt_or_ge i m.length with q' | q'
      · rw [zipL_get (List.getElem?_eq_getElem q) (List.getElem?_eq_getElem q')] at e
        cases e
      · exact .inr q'
    · exact .inl q
  · obtain ⟨da, db, e1, e2, rfl⟩ := zipL_inv e
    obtain ⟨x, hx, rx⟩ := r1.get e1
    obtain ⟨y, hy, ry⟩ := r2.get e2
    refine ⟨⟨xs, ys, x, y, g1, g2, hx, hy⟩, fun v H' q => ?_⟩
    obtain ⟨T, x', y', rfl, hT, rfl, q1, q2⟩ := q
    have z1 := q1 xs g1
    have z2 := q2 ys g2
    rw [hx] at z1
    rw [hy] at z2
    cases z1
    cases z2
    obtain ⟨S, J⟩ := J2.laid (o := .tup [x, y]) hT
    exact ⟨_, S, J, rep_two (J2.free hT).1 (rx.mono gg pp) (ry.mono gg pp)⟩
theorem itzT_c {G : Hp} {hs : List Addr} {a b : Addr} {xs ys : List V} {l m : List D} (h1 : SqT K G a xs) (h2 : SqT K G b ys) (r1 : RepL K M G hs l xs) (r2 : RepL K M G hs m ys) : ItC K M G hs (RZ.ItzT K a b) (zipL l m) := by
  intro G2 hs2 s2 H2 gg pp J2 i
  have g1 := same_seqT J2.sub (same_seqT gg h1)
  have g2 := same_seqT J2.sub (same_seqT gg h2)
  refine ⟨fun e => ⟨xs, ys, g1, g2, ?_⟩, fun d e => ?_⟩
  · rw [← r1.length, ← r2.length]
    rcases Nat.lt_or_ge i l.length with q | q
    · rcases Nat.lt_or_ge i m.length with q' | q'
      · rw [zipL_get (List.getElem?_eq_getElem q) (List.getElem?_eq_getElem q')] at e
        cases e
      · exact .inr q'
    · exact .inl q
  · obtain ⟨da, db, e1, e2, rfl⟩ := zipL_inv e
    obtain ⟨x, hx, rx⟩ := r1.get e1
    obtain ⟨y, hy, ry⟩ := r2.get e2
    refine ⟨⟨xs, ys, x, y, g1, g2, hx, hy⟩, fun v H' q => ?_⟩
    obtain ⟨T, x', y', rfl, hT, rfl, q1, q2⟩ := q
    have z1 := q1 xs g1
    have z2 := q2 ys g2
    rw [hx] at z1
    rw [hy] at z2
    cases z1
    cases z2
    obtain ⟨S, J⟩ := J2.laid (o := .tup [x, y]) hT
    exact ⟨_, S, J, rep_two (J2.free hT).1 (rx.mono gg pp) (ry.mono gg pp)⟩
theorem ite_c {G : Hp} {hs : List Addr} {a : Addr} {xs : List V} {l : List D} (h1 : SqL K G a xs) (r1 : RepL K M G hs l xs) : ItC K M G hs (Ite K a) (enumL 0 l) := by
  intro G2 hs2 s2 H2 gg pp J2 i
  have g1 := J2.sub.seq (gg.seq h1)
  rw [enumL_get]
  refine ⟨fun e => ⟨xs, g1, ?_⟩, fun d e => ?_⟩
  · rw [← r1.length]
    rw [Option.map_eq_none_iff] at e
    exact List.getElem?_eq_none_iff.mp e
  · rw [Option.map_eq_some_iff] at e
    obtain ⟨da, e1, rfl⟩ := e
    obtain ⟨x, hx, rx⟩ := r1.get e1
    refine ⟨⟨xs, x, g1, hx⟩, fun v H' q => ?_⟩
    obtain ⟨T, x', rfl, hT, rfl, q1⟩ := q
    have z1 := q1 xs g1
    rw [hx] at z1
    cases z1
    obtain ⟨S, J⟩ := J2.laid (o := .tup [.int (i : Nat), x]) hT
    refine ⟨_, S, J, rep_two (J2.free hT).1 (rep_int.mpr ?_) (rx.mono gg pp)⟩
    rw [Int.zero_add]
def signs (x : Str) : List D := x.cps.toList.map fun c => D.str ⟨#[c]⟩
def strO : D → Option (List D)
  | .str x => some (signs x)
  | _ => none
theorem its_c {G : Hp} {hs : List Addr} {x : Str} : ItC K M G hs (Its x) (signs x) := by
  intro G2 hs2 s2 H2 gg pp J2 i
  unfold signs
  rw [List.getElem?_map]
  refine ⟨fun e => ?_, fun d e => ?_⟩
  · rw [Option.map_eq_none_iff, Array.getElem?_toList] at e
    exact Array.getElem?_eq_none_iff.mp e
  · rw [Option.map_eq_some_iff] at e
    obtain ⟨c, e1, rfl⟩ := e
    rw [Array.getElem?_toList] at e1
    refine ⟨(Array.getElem?_eq_some_iff.mp e1).1, fun v H' q => ?_⟩
    obtain ⟨rfl, c', e2, rfl⟩ := q
    rw [e1] at e2
    cases e2
    exact ⟨G2, Stp.refl _ _ _ _, J2, rep_str.mpr rfl⟩
variable {e e2 : Expr} {g : Env → DS → R (List D)} {f : Env → DS → R D} {p pos tpos : Pos} {elts : List Expr} {kk : Nat}
theorem di_zip (hm : X.mg "zip" = none) (ha : DA M X W [e, e2] g) (hg : Gl X "zip" := by rfl) (hs : starEach [e, e2] X.env = (false, eval e X.env) :: starEach [e2] X.env := by rfl) (hpl : (backTo pos (starEach [e2] X.env)).any (·.1) = false := by rfl) :
    DI M X W (.Tuple elts kk tpos) (.Call (.Name "zip" p) [e, e2] [] pos) (rngD zipO g) := by
  obtain ⟨t, pa, k⟩ := ha.ex
  refine ⟨_, RZ.pi_zipA hg hm pa hs hpl, fun A σ H G hs own η s Q I r => ?_⟩
  refine k A σ H G hs own η s _ I (r.bind.mono fun ds G1 hs1 s1 H1 S1 J1 q vs hv => ?_)
  obtain ⟨xs, eo, q2⟩ := q.ofO
  clear q
  unfold zipO at eo
  split at eo
  · split at eo
    · split at eo
      · cases eo
        rename_i a b k1 l k2 m e1 e3 ek
        subst ek
        rw [repL_cons] at hv
        obtain ⟨v, vr, rfl, h1, hv⟩ := hv
        rw [repL_cons] at hv
        obtain ⟨u, vr, rfl, h2, h3⟩ := hv
        rw [repL_nil] at h3
        subst h3
        obtain ⟨aa, vs1, rfl, t1, r1⟩ := rep_seq h1 e1
        obtain ⟨bb, vs2, rfl, t2, r2⟩ := rep_seq h2 e3
        refine ⟨aa, bb, vs1, vs2, rfl, ?_⟩
        cases k1 with
        | true => exact .inl ⟨J1.sub.seq t1, J1.sub.seq t2, q2 G1 hs1 H1 (Stp.refl _ _ _ _) J1 _ (itz_c t1 t2 r1 r2)⟩
        | false => exact .inr ⟨same_seqT J1.sub t1, same_seqT J1.sub t2, q2 G1 hs1 H1 (Stp.refl _ _ _ _) J1 _ (itzT_c t1 t2 r1 r2)⟩
      · cases eo
    · cases eo
  · cases eo
theorem di_enum (hm : X.mg "enumerate" = none) (ha : DA M X W [e] g) (hg : Gl X "enumerate" := by rfl) (hs : starEach [e] X.env = [(false, eval e X.env)] := by rfl) :
    DI M X W (.Tuple elts kk tpos) (.Call (.Name "enumerate" p) [e] [] pos) (rngD enumO g) := by
  obtain ⟨t, pa, k⟩ := ha.ex
  refine ⟨_, pi_enum hg hm pa hs, fun A σ H G hs own η s Q I r => ?_⟩
  refine k A σ H G hs own η s _ I (r.bind.mono fun ds G1 hs1 s1 H1 S1 J1 q vs hv => ?_)
  obtain ⟨xs, eo, q2⟩ := q.ofO
  clear q
  have key : ∀ (d : D) (l : List D), ds = [d] → seqO d = some (true, l) → xs = enumL 0 l → ∃ a xs, vs = [.ref a] ∧ SqL X.K H1 a xs ∧ Q (Ite X.K a) H1 := fun d l ed es ex => by
    subst ed ex
    rw [repL_cons] at hv
    obtain ⟨v, vr, rfl, h1, h3⟩ := hv
    rw [repL_nil] at h3
    subst h3
    obtain ⟨aa, vs1, rfl, t1, r1⟩ := rep_seq h1 es
    exact ⟨aa, vs1, rfl, J1.sub.seq t1, q2 G1 hs1 H1 (Stp.refl _ _ _ _) J1 _ (ite_c t1 r1)⟩
  unfold enumO at eo
  split at eo
  · cases eo
    exact key _ _ rfl rfl rfl
  · cases eo
    exact key _ _ rfl rfl rfl
  · cases eo
theorem di_str {tg : Expr} (h : DE M X W e f) : DI M X W tg e (iterD strO f) := by
  obtain ⟨t, p, k⟩ := h.ex
  refine ⟨_, pi_str p, fun A σ H G hs own η s Q I r => ?_⟩
  refine k A σ H G hs own η s _ I (r.bind.mono fun d G1 hs1 s1 H1 S1 J1 q v hv => ?_)
  obtain ⟨ds, eo, q⟩ := q.ofO
  unfold strO at eo
  split at eo
  · cases eo
    rw [rep_str] at hv
    subst hv
    exact ⟨_, rfl, q G1 hs1 H1 (Stp.refl _ _ _ _) J1 _ its_c⟩
  · cases eo
end
end DL
set_option Elab.async false
set_option linter.all false
set_option maxRecDepth 100000
set_option maxHeartbeats 2000000
namespace DL
open PySem PySem.Spec PyProof.Rows L2
/-! ### min of three and of four ints -/
section
variable {prog : Program} {w : World} {A : Around} {E : Value → Shared → Prop} {s : Shared}
theorem args_min4 (a b c d : Value) : argsOk "min" ⟨[a, b, c, d], []⟩ := by unfold argsOk; kernel_rfl
theorem min_four {a b c d : Int} {ta tb tc td : Tok} {Q : Value → Shared → Prop} (hh : A.handled = none)
    (h : ∀ h' tk i t, (∀ d o, s.heap.get? d = some o → h'.get? d = some o) → (i = a ∨ i = b ∨ i = c ∨ i = d) → i ≤ a → i ≤ b → i ≤ c → i ≤ d → Q (.int i t) { s with heap := h', toks := tk }) :
    wpAny (model prog w) A (call (.builtin "min") [.int a ta, .int b tb, .int c tc, .int d td]) Q E s := by
  have hname : (toString "min" ++ toString ".loop" : String) = "min.loop" := by decide
  refine call_function_tree F.kind_min F.plain_min F.entry_min (args_min4 _ _ _ _) ?_
  show wpAny _ A.in1 (Builtin.Builtins.bindParams "min" ["key", "default"] 0 ⟨[], []⟩ >>= _) _ _ s
  refine wpAny_bind (wpAny_of_eq (show Builtin.Builtins.bindParams "min" ["key", "default"] 0 ⟨[], []⟩ = pure [none, none] from rfl) ?_)
  show wpAny _ A.in1 (newTuple [.int a ta, .int b tb, .int c tc, .int d td] >>= _) _ _ s
  refine wpAny_bind (wpAny_newObj_type ?_)
  generalize hxs : (#[(a, ta), (b, tb), (c, tc), (d, td)] : Array (Int × Tok)) = xs
  have e0 : ([.int a ta, .int b tb, .int c tc, .int d td] : List Value).toArray = intItems xs := by rw [← hxs]; simp [intItems]
  have hT : (s.heap.push { cls := .type "tuple", data := .seq ([.int a ta, .int b tb, .int c tc, .int d td] : List Value).toArray }).IsTuple s.heap.objs.size (intItems xs) := ⟨_, Heap.get?_push_size _ rfl, rfl, 0, by rw [e0]⟩
  have hsz : (s.heap.push { cls := .type "tuple", data := .seq ([.int a ta, .int b tb, .int c tc, .int d td] : List Value).toArray }).objs.size = s.heap.objs.size + 1 := Heap.size_push ..
  refine wpAny_bind (wpAny_pyIter_tuple hT ?_)
  rw [hsz]
  have W := Walks.tuple (prog := prog) (w := w) (A := A.in1) hh (s.heap.objs.size + 1) s.heap.objs.size (Nat.ne_of_lt (Nat.lt_succ_self _)) (intItems xs)
  refine wpAny_bind (wpAny_newObj_type ?_)
  rw [hname]
  have hn : 0 < (intItems xs).size := by rw [← hxs]; simp [intItems]
  have hsz2 : ((s.heap.push { cls := .type "tuple", data := .seq ([.int a ta, .int b tb, .int c tc, .int d td] : List Value).toArray }).push { cls := .type "tuple_iterator", data := .fields #[.ref s.heap.objs.size, .int 0 0] }).objs.size = s.heap.objs.size + 2 := by rw [Heap.size_push, hsz]
  refine wpAny_pure ⟨plainId_quiet F.plain_min_loop _, codeAny_min_loop_first W (fun i j => decide (numAt xs i < numAt xs j)) (CmpOf.ints_lt (numAt xs) (fun _ _ => intItems_at)) _ ?_ hn ?_ (Heap.get?_push_size _ rfl) fun v h' tk hP hk => ?_⟩
  · rw [hsz2]
    simp
  · refine ⟨⟨_, Heap.get?_push_of_some _ (by rw [← hsz]; exact Heap.get?_push_size _ rfl), rfl, rfl⟩, (hT.push _).push _⟩
  · obtain ⟨t, e⟩ := intItems_at hP
    obtain ⟨h1, h2⟩ := argBest_lt (numAt xs) ((intItems xs).size - 1)
    have hs3 : (intItems xs).size - 1 = 3 := by rw [← hxs]; simp [intItems]
    rw [hs3] at h1 h2 e
    have n0 : numAt xs 0 = a := by rw [← hxs]; rfl
    have n1 : numAt xs 1 = b := by rw [← hxs]; rfl
    have n2 : numAt xs 2 = c := by rw [← hxs]; rfl
    have n3 : numAt xs 3 = d := by rw [← hxs]; rfl
    generalize argBest (fun i j => decide (numAt xs i < numAt xs j)) 3 = m at h1 h2 e
    have k0 := h2 0 (by omega)
    have k1 := h2 1 (by omega)
    have k2 := h2 2 (by omega)
    have k3 := h2 3 (by omega)
    rw [n0] at k0
    rw [n1] at k1
    rw [n2] at k2
    rw [n3] at k3
    subst e
    have hm : numAt xs m = a ∨ numAt xs m = b ∨ numAt xs m = c ∨ numAt xs m = d := by
      have : m = 0 ∨ m = 1 ∨ m = 2 ∨ m = 3 := by omega
      rcases this with rfl | rfl | rfl | rfl
      · exact .inl n0
      · exact .inr (.inl n1)
      · exact .inr (.inr (.inl n2))
      · exact .inr (.inr (.inr n3))
    refine h h' tk _ t (fun b o e => ?_) hm k0 k1 k2 k3
    have hb := Heap.lt_size e
    refine hk b o (fun hm => Nat.ne_of_lt (Nat.lt_succ_of_lt hb) (List.mem_singleton.mp hm)) ?_ (Heap.get?_push_of_some _ (Heap.get?_push_of_some _ (Heap.get?_push_of_some _ e)))
    rw [hsz2]
    exact Nat.ne_of_lt (Nat.lt_succ_of_lt (Nat.lt_succ_of_lt hb))
end
def min3O : List D → Option D
  | [.int i, .int j, .int k] => some (.int (min (min i j) k))
  | _ => none
def min4O : List D → Option D
  | [.int i, .int j, .int k, .int l] => some (.int (min (min (min i j) k) l))
  | _ => none
theorem vals3 {a b c : V} {us : List Value} (h : Vals [a, b, c] us) : ∃ u v x, us = [u, v, x] ∧ RelV a u ∧ RelV b v ∧ RelV c x := by
  cases h with
  | cons r h =>
    cases h with
    | cons r2 h =>
      cases h with
      | cons r3 h =>
        cases h
        exact ⟨_, _, _, rfl, r, r2, r3⟩
theorem vals4 {a b c d : V} {us : List Value} (h : Vals [a, b, c, d] us) : ∃ u v x y, us = [u, v, x, y] ∧ RelV a u ∧ RelV b v ∧ RelV c x ∧ RelV d y := by
  cases h with
  | cons r h =>
    obtain ⟨v, x, y, rfl, r2, r3, r4⟩ := vals3 h
    exact ⟨_, v, x, y, rfl, r, r2, r3, r4⟩
section
variable {M : Mp} {X : Cx}
theorem RVL.get3 {K : PySem.W.Frag} {G H : Hp} {hs : List Addr} {a b c : D} {vs : List V} (h : RVL K M G hs H [a, b, c] vs) : ∃ u v w, vs = [u, v, w] ∧ RV K M G hs H a u ∧ RV K M G hs H b v ∧ RV K M G hs H c w := by
  cases h with
  | cons r h =>
    cases h with
    | cons r2 h =>
      cases h with
      | cons r3 h =>
        cases h
        exact ⟨_, _, _, rfl, r, r2, r3⟩
theorem RVL.get4 {K : PySem.W.Frag} {G H : Hp} {hs : List Addr} {a b c d : D} {vs : List V} (h : RVL K M G hs H [a, b, c, d] vs) : ∃ u v w x, vs = [u, v, w, x] ∧ RV K M G hs H a u ∧ RV K M G hs H b v ∧ RV K M G hs H c w ∧ RV K M G hs H d x := by
  cases h with
  | cons r h =>
    obtain ⟨v, w, x, rfl, r2, r3, r4⟩ := RVL.get3 h
    exact ⟨_, v, w, x, rfl, r, r2, r3, r4⟩
theorem call_min3 (hc : X.calm = true) : CallR X (.builtin "min") (fun xs H Q => ∃ i j k, xs = [.int i, .int j, .int k] ∧ Q (.int (min (min i j) k)) H) := by
  intro pins s σ H xs us Q I r h
  obtain ⟨i, j, k, rfl, q⟩ := h
  obtain ⟨u, v, w, rfl, ⟨t, rfl⟩, ⟨t', rfl⟩, ⟨t'', rfl⟩⟩ := vals3 r
  refine PySem.min_three_ints (I.ok.hd hc) fun h' tk kk => ⟨_, H, I.kept kk, ?_, q⟩
  by_cases hj : j < i
  · by_cases hk : k < j
    · rw [if_pos hj, if_pos hk, show min (min i j) k = k by omega]; exact ⟨_, rfl⟩
    · rw [if_pos hj, if_neg hk, show min (min i j) k = j by omega]; exact ⟨_, rfl⟩
  · by_cases hk : k < i
    · rw [if_neg hj, if_pos hk, show min (min i j) k = k by omega]; exact ⟨_, rfl⟩
    · rw [if_neg hj, if_neg hk, show min (min i j) k = i by omega]; exact ⟨_, rfl⟩
theorem call_min4 (hc : X.calm = true) : CallR X (.builtin "min") (fun xs H Q => ∃ i j k l, xs = [.int i, .int j, .int k, .int l] ∧ Q (.int (min (min (min i j) k) l)) H) := by
  intro pins s σ H xs us Q I r h
  obtain ⟨i, j, k, l, rfl, q⟩ := h
  obtain ⟨u, v, w, x, rfl, ⟨t, rfl⟩, ⟨t', rfl⟩, ⟨t'', rfl⟩, ⟨t3, rfl⟩⟩ := vals4 r
  refine min_four (I.ok.hd hc) fun h' tk m t kk h1 h2 h3 h4 h5 => ⟨.int m, H, I.kept kk, ⟨_, rfl⟩, ?_⟩
  have e : m = min (min (min i j) k) l := by omega
  rw [e]
  exact q
theorem cd_min3 (hc : X.calm = true) : CallD M X (.builtin "min") min3O := by
  refine ⟨_, call_min3 hc, fun G hs s H ds z vs Q J hv e k => ?_⟩
  unfold min3O at e
  split at e
  · cases e
    obtain ⟨u, v, w, rfl, h, h', h''⟩ := hv.get3
    exact ⟨_, _, _, by rw [h.int, h'.int, h''.int], k G H (Stp.refl _ _ _ _) J _ (rep_int.mpr rfl)⟩
  · cases e
theorem cd_min4 (hc : X.calm = true) : CallD M X (.builtin "min") min4O := by
  refine ⟨_, call_min4 hc, fun G hs s H ds z vs Q J hv e k => ?_⟩
  unfold min4O at e
  split at e
  · cases e
    obtain ⟨u, v, w, x, rfl, h, h', h'', h3⟩ := hv.get4
    exact ⟨_, _, _, _, by rw [h.int, h'.int, h''.int, h3.int], k G H (Stp.refl _ _ _ _) J _ (rep_int.mpr rfl)⟩
  · cases e
end
theorem min3_int {i j k : Int} : min3O [.int i, .int j, .int k] = some (.int (min (min i j) k)) := rfl
theorem min4_int {i j k l : Int} : min4O [.int i, .int j, .int k, .int l] = some (.int (min (min (min i j) k) l)) := rfl
section
variable {η : DL.Env} {s : DS} {fi : DL.Env → DS → R (List D)} {put : D → DL.Env → Option DL.Env} {ft : DL.Env → DS → R Bool} {fe : DL.Env → DS → R D} {vs : List Nat} {stop : Bool} {d : D} {ds : List D}
theorem gSumD_eq : gSumD fi put ft fe vs η s = (fi η s).bnd fun ds s1 => (lcF put ft fe (wipeE η vs) ds s1).bnd fun ys s2 => (R.ofO (intsOf ys) s2).bnd fun zs s3 => .ok (.int zs.sum) s3 := rfl
theorem gAnyD_eq : gAnyD stop fi put ft fe vs η s = (fi η s).bnd fun ds s1 => anyF stop put ft fe (wipeE η vs) ds s1 := rfl
theorem anyF_nil : anyF stop put ft fe η [] s = .ok (.bl (!stop)) s := rfl
theorem anyF_cons : anyF stop put ft fe η (d :: ds) s = match put d η with
    | none => .bad
    | some η1 => (ft η1 s).nx.bind fun b s1 => if b = true then (fe η1 s1).nx.bind fun y s2 => (R.ofO (asB y) s2).bind fun t s3 => if t = stop then .ok (.bl stop) s3 else anyF stop put ft fe η ds s3 else anyF stop put ft fe η ds s1 := by
  rw [anyF]
  try rfl
theorem intsOf_mapf {γ : Type} {f : γ → Int} : ∀ {l : List γ}, intsOf (l.map fun a => D.int (f a)) = some (l.map f)
  | [] => rfl
  | a :: l => by
    rw [List.map_cons, intsOf, intsOf_mapf]
    rfl
/-- any, all over what changes nothing -/
theorem anyF_pure {γ : Type} (e : γ → D) (t : γ → Bool) (y : γ → Bool) : ∀ (l : List γ), (∀ a ∈ l, ∃ η1, put (e a) η = some η1 ∧ ft η1 s = .ok (t a) s ∧ (t a = true → fe η1 s = .ok (.bl (y a)) s)) → anyF true put ft fe η (l.map e) s = .ok (.bl (l.any fun a => t a && y a)) s
  | [], _ => rfl
  | a :: l, h => by
    obtain ⟨η1, e1, e2, e3⟩ := h a List.mem_cons_self
    have ih := anyF_pure e t y l fun b hb => h b (List.mem_cons_of_mem _ hb)
    rw [List.map_cons, anyF_cons, e1]
    simp only [e2, R.nx, R.bind]
    cases q : t a with
    | false => simp only [Bool.false_eq_true, if_false, ih, List.any_cons, q, Bool.false_and, Bool.false_or]
    | true =>
      rw [e3 q]
      simp only [if_true, R.ofO, asB, List.any_cons, q, Bool.true_and]
      cases q2 : y a with
      | false => simp only [Bool.false_eq_true, if_false, ih, Bool.false_or]
      | true => simp only [if_true, Bool.true_or]
theorem allF_pure {γ : Type} (e : γ → D) (t : γ → Bool) (y : γ → Bool) : ∀ (l : List γ), (∀ a ∈ l, ∃ η1, put (e a) η = some η1 ∧ ft η1 s = .ok (t a) s ∧ (t a = true → fe η1 s = .ok (.bl (y a)) s)) → anyF false put ft fe η (l.map e) s = .ok (.bl (l.all fun a => !t a || y a)) s
  | [], _ => rfl
  | a :: l, h => by
    obtain ⟨η1, e1, e2, e3⟩ := h a List.mem_cons_self
    have ih := allF_pure e t y l fun b hb => h b (List.mem_cons_of_mem _ hb)
    rw [List.map_cons, anyF_cons, e1]
    simp only [e2, R.nx, R.bind]
    cases q : t a with
    | false => simp only [Bool.false_eq_true, if_false, ih, List.all_cons, q, Bool.not_false, Bool.true_or, Bool.true_and]
    | true =>
      rw [e3 q]
      simp only [if_true, R.ofO, asB, List.all_cons, q, Bool.not_true, Bool.false_or]
      cases q2 : y a with
      | false => simp only [if_true, Bool.false_and]
      | true => simp only [Bool.true_eq_false, if_false, ih, Bool.true_and]
end
end DL
set_option Elab.async false
set_option linter.all false
set_option maxRecDepth 100000
set_option maxHeartbeats 2000000
namespace DL
open PySem PySem.Spec PyProof.Rows L2
/-! ### in, not in -/
def isI : D → Bool
  | .int _ => true
  | _ => false
def isS : D → Bool
  | .str _ => true
  | _ => false
def flt (x : D) (l : List D) : Bool := (isI x && l.all isI) || (isS x && l.all isS)
def inStr (i j : Str) : Bool := !(Builtin.Str.occurrences j i 0 j.length 1).isEmpty
def opIn : D → D → Option D
  | x, .lst l => if flt x l = true then some (.bl (l.any fun y => eqB y x)) else none
  | x, .tup l => if flt x l = true then some (.bl (l.any fun y => eqB y x)) else none
  | x, .scr l => if flt x (l.map D.int) = true then some (.bl ((l.map D.int).any fun y => eqB y x)) else none
  | .str i, .str j => some (.bl (inStr i j))
  | _, _ => none
def opNin : D → D → Option D
  | x, .lst l => if flt x l = true then some (.bl (!(l.any fun y => eqB y x))) else none
  | x, .tup l => if flt x l = true then some (.bl (!(l.any fun y => eqB y x))) else none
  | x, .scr l => if flt x (l.map D.int) = true then some (.bl (!((l.map D.int).any fun y => eqB y x))) else none
  | .str i, .str j => some (.bl (!(inStr i j)))
  | _, _ => none
section
variable {M : Mp} {X : Cx} {K : PySem.W.Frag}
theorem in_flat {G : Hp} {hs : List Addr} {x : D} {v : V} : ∀ {l : List D} {vs : List V}, flt x l = true → Rep K M G hs x v → RepL K M G hs l vs → flatV v = true ∧ vs.all flatV = true ∧ inV v vs = l.any fun y => eqB y x
  | [], vs, h, hx, hl => by
    rw [repL_nil] at hl
    subst hl
    refine ⟨?_, rfl, rfl⟩
    unfold flt at h
    cases x <;> simp [isI, isS] at h
    · rw [rep_int] at hx; subst hx; rfl
    · rw [rep_str] at hx; subst hx; rfl
  | y :: l, vs, h, hx, hl => by
    rw [repL_cons] at hl
    obtain ⟨w, vr, rfl, hy, hr⟩ := hl
    unfold flt at h
    simp only [List.all_cons, Bool.or_eq_true, Bool.and_eq_true] at h
    have h2 : flt x l = true := by
      unfold flt
      simp only [Bool.or_eq_true, Bool.and_eq_true]
      rcases h with ⟨a, b, c⟩ | ⟨a, b, c⟩
      · exact .inl ⟨a, c⟩
      · exact .inr ⟨a, c⟩
    obtain ⟨i1, i2, i3⟩ := in_flat h2 hx hr
    rcases h with ⟨a, b, _⟩ | ⟨a, b, _⟩
    · cases x <;> simp [isI] at a
      cases y <;> simp [isI] at b
      rw [rep_int] at hx hy
      subst hx hy
      refine ⟨rfl, by rw [List.all_cons, i2]; rfl, ?_⟩
      unfold inV at i3 ⊢
      rw [List.any_cons, List.any_cons, i3]
      congr 1
    · cases x <;> simp [isS] at a
      cases y <;> simp [isS] at b
      rw [rep_str] at hx hy
      subst hx hy
      refine ⟨rfl, by rw [List.all_cons, i2]; rfl, ?_⟩
      unfold inV at i3 ⊢
      rw [List.any_cons, List.any_cons, i3]
      congr 1
theorem RV.flt {G H : Hp} {hs : List Addr} {s : DS} {x : D} {l : List D} {v : V} (h : RV K M G hs H x v) (f : flt x l = true) : Rep K M G hs x v := by
  rcases h with h | ⟨a, e, h⟩
  · exact h
  · unfold DL.flt at f
    cases x <;> simp [isI, isS] at f <;> exact h.elim
theorem od_in : OpD M X (compareOp .In) opIn := by
  refine ⟨_, op_in_seq.or op_in_str, fun G hs s H x y z v u Q J hx hy e k => ?_⟩
  unfold opIn at e
  split at e
  · split at e
    · rename_i l hf
      cases e
      obtain ⟨a, vs, rfl, h1, h2⟩ := hy.lst J
      obtain ⟨i1, i2, i3⟩ := in_flat hf (hx.flt (s := s) hf) h2
      exact .inl ⟨a, vs, rfl, .inl (SqL.of h1), i1, i2, by rw [if_neg Bool.false_ne_true, i3]; exact k G H (Stp.refl _ _ _ _) J _ (rep_bl.mpr rfl)⟩
    · cases e
  · split at e
    · rename_i l hf
      cases e
      obtain ⟨a, vs, rfl, h1, h2⟩ := hy.tup J
      obtain ⟨i1, i2, i3⟩ := in_flat hf (hx.flt (s := s) hf) h2
      exact .inl ⟨a, vs, rfl, .inr h1, i1, i2, by rw [if_neg Bool.false_ne_true, i3]; exact k G H (Stp.refl _ _ _ _) J _ (rep_bl.mpr rfl)⟩
    · cases e
  · split at e
    · rename_i l hf
      cases e
      have hy2 : Rep X.K M G hs (.scr l) u := by
        rcases hy with hy | ⟨_, _, hy⟩
        · exact hy
        · exact hy.elim
      obtain ⟨a, rfl, h1⟩ := rep_scr.mp hy2
      obtain ⟨i1, i2, i3⟩ := in_flat hf (hx.flt (s := s) hf) (RepL.ints (ns := l).mpr rfl)
      exact .inl ⟨a, _, rfl, .inl (J.sub.seq h1), i1, i2, by rw [if_neg Bool.false_ne_true, i3]; exact k G H (Stp.refl _ _ _ _) J _ (rep_bl.mpr rfl)⟩
    · cases e
  · cases e
    exact .inr ⟨_, _, hx.str, hy.str, k G H (Stp.refl _ _ _ _) J _ (rep_bl.mpr rfl)⟩
  · cases e
theorem od_nin : OpD M X (compareOp .NotIn) opNin := by
  refine ⟨_, op_notIn_seq.or op_notIn_str, fun G hs s H x y z v u Q J hx hy e k => ?_⟩
  unfold opNin at e
  split at e
  · split at e
    · rename_i l hf
      cases e
      obtain ⟨a, vs, rfl, h1, h2⟩ := hy.lst J
      obtain ⟨i1, i2, i3⟩ := in_flat hf (hx.flt (s := s) hf) h2
      exact .inl ⟨a, vs, rfl, .inl (SqL.of h1), i1, i2, by rw [if_pos rfl, i3]; exact k G H (Stp.refl _ _ _ _) J _ (rep_bl.mpr rfl)⟩
    · cases e
  · split at e
    · rename_i l hf
      cases e
      obtain ⟨a, vs, rfl, h1, h2⟩ := hy.tup J
      obtain ⟨i1, i2, i3⟩ := in_flat hf (hx.flt (s := s) hf) h2
      exact .inl ⟨a, vs, rfl, .inr h1, i1, i2, by rw [if_pos rfl, i3]; exact k G H (Stp.refl _ _ _ _) J _ (rep_bl.mpr rfl)⟩
    · cases e
  · split at e
    · rename_i l hf
      cases e
      have hy2 : Rep X.K M G hs (.scr l) u := by
        rcases hy with hy | ⟨_, _, hy⟩
        · exact hy
        · exact hy.elim
      obtain ⟨a, rfl, h1⟩ := rep_scr.mp hy2
      obtain ⟨i1, i2, i3⟩ := in_flat hf (hx.flt (s := s) hf) (RepL.ints (ns := l).mpr rfl)
      exact .inl ⟨a, _, rfl, .inl (J.sub.seq h1), i1, i2, by rw [if_pos rfl, i3]; exact k G H (Stp.refl _ _ _ _) J _ (rep_bl.mpr rfl)⟩
    · cases e
  · cases e
    exact .inr ⟨_, _, hx.str, hy.str, k G H (Stp.refl _ _ _ _) J _ (rep_bl.mpr rfl)⟩
  · cases e
end
theorem opIn_lst {x : D} {l : List D} (h : flt x l = true) : opIn x (.lst l) = some (.bl (l.any fun y => eqB y x)) := by
  unfold opIn
  cases x <;> exact if_pos h
theorem opIn_tup {x : D} {l : List D} (h : flt x l = true) : opIn x (.tup l) = some (.bl (l.any fun y => eqB y x)) := by
  unfold opIn
  cases x <;> exact if_pos h
theorem opNin_lst {x : D} {l : List D} (h : flt x l = true) : opNin x (.lst l) = some (.bl (!(l.any fun y => eqB y x))) := by
  unfold opNin
  cases x <;> exact if_pos h
theorem opNin_tup {x : D} {l : List D} (h : flt x l = true) : opNin x (.tup l) = some (.bl (!(l.any fun y => eqB y x))) := by
  unfold opNin
  cases x <;> exact if_pos h
theorem opIn_ss {x y : Str} : opIn (.str x) (.str y) = some (.bl (inStr x y)) := rfl
theorem opNin_ss {x y : Str} : opNin (.str x) (.str y) = some (.bl (!(inStr x y))) := rfl
theorem eqB_ii {a b : Int} : eqB (.int a) (.int b) = (a == b) := rfl
theorem eqB_ss {a b : Str} : eqB (.str a) (.str b) = (a == b) := rfl
end DL
set_option Elab.async false
set_option linter.all false
set_option maxRecDepth 100000
set_option maxHeartbeats 2000000
/-! more rules of reckoning -/
namespace DL
open PySem PySem.Spec PyProof.Rows L2
theorem opNeg_int {a : Int} : opNeg (.int a) = some (.int (-a)) := rfl
theorem listO_l {l : List D} : listO [.lst l] = some (.lst l) := rfl
theorem listO_t {l : List D} : listO [.tup l] = some (.lst l) := rfl
theorem tupleO_l {l : List D} : tupleO [.lst l] = some (.tup l) := rfl
theorem tupleO_t {l : List D} : tupleO [.tup l] = some (.tup l) := rfl
theorem zipO_ll {l m : List D} : zipO [.lst l, .lst m] = some (zipL l m) := by simp [zipO, seqO]
theorem zipO_tt {l m : List D} : zipO [.tup l, .tup m] = some (zipL l m) := by simp [zipO, seqO]
theorem enumO_l {l : List D} : enumO [.lst l] = some (enumL 0 l) := rfl
theorem sumO_map {γ : Type} {f : γ → Int} {l : List γ} : sumO [.lst (l.map fun a => D.int (f a))] = some (.int (l.map f).sum) := by
  simp [sumO, intsOf_mapf]
theorem sumO_ints {l : List Int} : sumO [.lst (l.map D.int)] = some (.int l.sum) := by
  simp [sumO, intsOf_map]
theorem lenO_l {l : List D} : lenO [.lst l] = some (.int (l.length : Nat)) := rfl
theorem lenO_t {l : List D} : lenO [.tup l] = some (.int (l.length : Nat)) := rfl
theorem opEq_ts {l : List D} {x : Str} : opEq (.tup l) (.str x) = some (.bl false) := by
  unfold opEq
  split
  · simp [eqB]
  · simp [seqStr]
theorem opEq_ls {l : List D} {x : Str} : opEq (.lst l) (.str x) = some (.bl false) := by
  unfold opEq
  split
  · simp [eqB]
  · simp [seqStr]
theorem opEq_st {l : List D} {x : Str} : opEq (.str x) (.tup l) = some (.bl false) := by
  unfold opEq
  split
  · simp [eqB]
  · simp [seqStr]
theorem opEq_sl {l : List D} {x : Str} : opEq (.str x) (.lst l) = some (.bl false) := by
  unfold opEq
  split
  · simp [eqB]
  · simp [seqStr]
theorem opNe_ts {l : List D} {x : Str} : opNe (.tup l) (.str x) = some (.bl true) := by
  unfold opNe
  split
  · simp [eqB]
  · simp [seqStr]
theorem opNe_ls {l : List D} {x : Str} : opNe (.lst l) (.str x) = some (.bl true) := by
  unfold opNe
  split
  · simp [eqB]
  · simp [seqStr]
theorem opNe_st {l : List D} {x : Str} : opNe (.str x) (.tup l) = some (.bl true) := by
  unfold opNe
  split
  · simp [eqB]
  · simp [seqStr]
theorem opNe_sl {l : List D} {x : Str} : opNe (.str x) (.lst l) = some (.bl true) := by
  unfold opNe
  split
  · simp [eqB]
  · simp [seqStr]
theorem atI_last {l : List D} (h : 0 < l.length) : atI l (-1) = l[l.length - 1]? := by
  unfold atI
  rw [ixN]
  split
  · omega
  · rename_i h2
    split
    · rename_i h3
      show l[_]? = _
      congr 1
      omega
    · omega
theorem frzL_nil {η : DL.Env} : frzL [] η = η := rfl
theorem frzL_cons {i : Nat} {is : List Nat} {η : DL.Env} : frzL (i :: is) η = frzL is (frzE η i) := rfl
theorem frzE_z {d : D} {η : DL.Env} (h : notObj d = true) : frzE (.o d :: η) 0 = .v d :: η := by simp [frzE, h]
theorem frzE_zl {l : List D} {η : DL.Env} : frzE (.o (.lst l) :: η) 0 = .v (.lst l) :: η := frzE_z rfl
theorem frzE_zd {l : List (D × D)} {η : DL.Env} : frzE (.o (.dic l) :: η) 0 = .v (.dic l) :: η := frzE_z rfl
theorem frzE_zv {d : D} {η : DL.Env} : frzE (.v d :: η) 0 = .v d :: η := by simp [frzE]
theorem frzE_zn {η : DL.Env} : frzE (.no :: η) 0 = .no :: η := by simp [frzE]
theorem frzE_s {x : Sl} {η : DL.Env} {n : Nat} : frzE (x :: η) (n + 1) = x :: frzE η n := by
  unfold frzE
  simp only [List.getElem?_cons_succ]
  split
  · split <;> simp [*]
  · rfl
def anyPut (o : Option DL.Env) (f : DL.Env → R D) : R D := match o with
  | none => .bad
  | some η => f η
theorem anyPut_some {η : DL.Env} {f : DL.Env → R D} : anyPut (some η) f = f η := rfl
theorem anyF_eq {stop : Bool} {put : D → DL.Env → Option DL.Env} {ft : DL.Env → DS → R Bool} {fe : DL.Env → DS → R D} {η : DL.Env} {d : D} {ds : List D} {s : DS} : anyF stop put ft fe η (d :: ds) s = anyPut (put d η) fun η1 => (ft η1 s).nx.bnd fun b s1 => if b = true then (fe η1 s1).nx.bnd fun y s2 => (R.ofO (asB y) s2).bnd fun t s3 => if t = stop then .ok (.bl stop) s3 else anyF stop put ft fe η ds s3 else anyF stop put ft fe η ds s1 := by
  rw [anyF_cons]
  cases put d η <;> rfl
end DL
set_option Elab.async false
set_option linter.all false
set_option maxRecDepth 100000
set_option maxHeartbeats 2000000
namespace DL
open PySem PySem.Spec PyProof.Rows L2
/-! ### a < b < c < d -/
section
variable {X : Cx} {a b c d : Expr} {ta tb tc td : TE} {pos : Pos}
def tChain3 (r r' r'' : R2) (ta tb tc td : TE) : TE := fun σ H Q => ta σ H fun x H1 => tb σ H1 fun y H2 => r x y H2 fun z H3 => ∃ k, z = .bl k ∧
  (if k = true then tc σ H3 fun w H4 => r' y w H4 fun z2 H5 => ∃ k2, z2 = .bl k2 ∧ (if k2 = true then td σ H5 fun q H6 => r'' w q H6 Q else Q (.bl false) H5) else Q (.bl false) H3)
theorem pe_chain3 {op op' op'' : CmpOp} {r r' r'' : R2} (ho : OpR X (compareOp op) r) (ho' : OpR X (compareOp op') r') (ho'' : OpR X (compareOp op'') r'') (ha : PE X a ta) (hb : PE X b tb) (hc : PE X c tc) (hd : PE X d td)
    (hm : lastMarks [op, op', op''] [b, c, d] = false := by with_unfolding_all rfl) : PE X (.Compare a [op, op', op''] [b, c, d] pos) (tChain3 r r' r'' ta tb tc td) := by
  refine ⟨fun pins s σ H Q I h => ?_⟩
  refine Compare_chain (thn (ha.run pins s σ H _ I h) fun v s1 ⟨x, H1, I1, r1, q1⟩ => chain_link (thn (hb.run pins s1 σ H1 _ I1 q1) fun u s2 ⟨y, H2, I2, r2, q2⟩ =>
    thn (ho pins s2 σ H2 x y v u _ I2 r1 r2 q2) fun d s3 ⟨z, H3, I3, r3, k, e, q3⟩ => ?_)) hm
  subst e
  cases r3
  refine wpAny_truthy_bool ?_
  cases k with
  | false => exact ite_ff ⟨.bl false, H3, I3, rfl, q3⟩
  | true =>
    refine ite_tt (chain_link (thn (hc.run pins s3 σ H3 _ I3 q3) fun w s4 ⟨z', H4, I4, r4, q4⟩ => thn (ho' pins s4 σ H4 y z' u w _ I4 r2 r4 q4) fun d2 s5 ⟨z2, H5, I5, r5, k2, e2, q5⟩ => ?_))
    subst e2
    cases r5
    refine wpAny_truthy_bool ?_
    cases k2 with
    | false => exact ite_ff ⟨.bl false, H5, I5, rfl, q5⟩
    | true => exact ite_tt (chain_last (thn (hd.run pins s5 σ H5 _ I5 q5) fun w' s6 ⟨z3, H6, I6, r6, q6⟩ => ho'' pins s6 σ H6 z' z3 w w' Q I6 r4 r6 q6))
theorem pt_chain3 {op op' op'' : CmpOp} {r r' r'' : R2} (ho : OpR X (compareOp op) r) (ho' : OpR X (compareOp op') r') (ho'' : OpR X (compareOp op'') r'') (ha : PE X a ta) (hb : PE X b tb) (hc : PE X c tc) (hd : PE X d td)
    (hm : lastMarks [op, op', op''] [b, c, d] = false := by with_unfolding_all rfl) : PT X (.Compare a [op, op', op''] [b, c, d] pos) (tTest (tChain3 r r' r'' ta tb tc td)) := by
  refine ⟨fun pins s σ H Q I h => ?_⟩
  refine isTrue_chain (thn (ha.run pins s σ H _ I h) fun v s1 ⟨x, H1, I1, r1, q1⟩ => test_link (thn (hb.run pins s1 σ H1 _ I1 q1) fun u s2 ⟨y, H2, I2, r2, q2⟩ =>
    thn (ho pins s2 σ H2 x y v u _ I2 r1 r2 q2) fun d s3 ⟨z, H3, I3, r3, k, e, q3⟩ => ?_)) hm
  subst e
  cases r3
  refine wpAny_truthy_bool ?_
  cases k with
  | false =>
    obtain ⟨k', e', q'⟩ := q3
    cases e'
    exact ite_ff ⟨H3, I3, q'⟩
  | true =>
    refine ite_tt (test_link (thn (hc.run pins s3 σ H3 _ I3 q3) fun w s4 ⟨z', H4, I4, r4, q4⟩ => thn (ho' pins s4 σ H4 y z' u w _ I4 r2 r4 q4) fun d2 s5 ⟨z2, H5, I5, r5, k2, e2, q5⟩ => ?_))
    subst e2
    cases r5
    refine wpAny_truthy_bool ?_
    cases k2 with
    | false =>
      obtain ⟨k', e', q'⟩ := q5
      cases e'
      exact ite_ff ⟨H5, I5, q'⟩
    | true =>
      refine ite_tt (test_last (thn (hd.run pins s5 σ H5 _ I5 q5) fun w' s6 ⟨z3, H6, I6, r6, q6⟩ => thn (ho'' pins s6 σ H6 z' z3 w w' _ I6 r4 r6 q6) fun d' s7 ⟨z4, H7, I7, r7, k4, e4, q7⟩ => ?_))
      subst e4
      cases r7
      exact wpAny_truthy_bool ⟨H7, I7, q7⟩
end
section
variable {M : Mp} {X : Cx} {W : WX} {a b c d : Expr} {fa fb fc fd : Env → DS → R D} {pos : Pos}
def ch3D (o o' o'' : D → D → Option D) (fa fb fc fd : Env → DS → R D) : Env → DS → R D := fun η s => (fa η s).bind fun x s1 => (fb η s1).bind fun y s2 => (R.ofO (o (deref s2 x) (deref s2 y)) s2).bind fun z s3 =>
  (R.ofO (asB z) s3).bind fun k s3 => if k = true then (fc η s3).bind fun w s4 => (R.ofO (o' (deref s4 y) (deref s4 w)) s4).bind fun z2 s5 =>
    (R.ofO (asB z2) s5).bind fun k2 s5 => if k2 = true then (fd η s5).bind fun q s6 => R.ofO (o'' (deref s6 w) (deref s6 q)) s6 else .ok (.bl false) s5 else .ok (.bl false) s3
theorem ch3_run {op op' op'' : Value → Value → Sem Value} {o o' o'' : D → D → Option D} {r r' r'' : R2} {ta tb tc td : TE} {A : Anc} {σ : L2.St} {H G : Hp} {hs : List Addr} {own : Nat → Addr} {η : Env} {s : DS} {Q : VK}
    (hr : OEx M X r o) (hr' : OEx M X r' o') (hr'' : OEx M X r'' o'') (ha : BEx M X W ta fa) (hb : BEx M X W tb fb) (hc : BEx M X W tc fc) (hd : BEx M X W td fd)
    (I : Sm X.K M A σ H G hs own η s) (hp : RPost X.K M σ W G hs H (ch3D o o' o'' fa fb fc fd η s) (fun d G' hs' _ H' => ∀ v, Rep X.K M G' hs' d v → Q v H')) : tChain3 r r' r'' ta tb tc td σ H Q := by
  refine ha A σ H G hs own η s _ I (hp.bind.mono fun x G1 hs1 s1 H1 S1 J1 h1 v hv => ?_)
  refine hb A σ H1 G1 hs1 own η s1 _ (I.step S1 J1) (h1.bind.mono fun y G2 hs2 s2 H2 S2 J2 h2 u hu => ?_)
  obtain ⟨z, e, k⟩ := h2.bind.ofO
  refine hr G2 hs2 s2 H2 _ _ z v u _ J2 ((hv.step S2).read J2) (hu.read J2) e fun G3 H3 S3 J3 w hw => ?_
  obtain ⟨kb, e2, k2⟩ := (k G3 hs2 H3 S3 J3).bind.ofO
  rw [asB_some e2, rep_bl] at hw
  have k3 := k2 G3 hs2 H3 (Stp.refl _ _ _ _) J3
  refine ⟨kb, hw, ?_⟩
  cases kb with
  | false =>
    rw [if_neg Bool.false_ne_true]
    rw [if_neg Bool.false_ne_true] at k3
    exact k3 G3 hs2 H3 (Stp.refl _ _ _ _) J3 _ (rep_bl.mpr rfl)
  | true =>
    rw [if_pos rfl]
    rw [if_pos rfl] at k3
    refine hc A σ H3 G3 hs2 own η s2 _ (((I.step S1 J1).step S2 J2).step S3 J3) (k3.bind.mono fun q G4 hs4 s4 H4 S4 J4 h4 w4 hw4 => ?_)
    obtain ⟨z4, e4, k4⟩ := h4.bind.ofO
    refine hr' G4 hs4 s4 H4 _ _ z4 u w4 _ J4 (((hu.step S3).step S4).read J4) (hw4.read J4) e4 fun G5 H5 S5 J5 w5 hw5 => ?_
    obtain ⟨kb2, e5, k5⟩ := (k4 G5 hs4 H5 S5 J5).bind.ofO
    rw [asB_some e5, rep_bl] at hw5
    have k6 := k5 G5 hs4 H5 (Stp.refl _ _ _ _) J5
    refine ⟨kb2, hw5, ?_⟩
    cases kb2 with
    | false =>
      rw [if_neg Bool.false_ne_true]
      rw [if_neg Bool.false_ne_true] at k6
      exact k6 G5 hs4 H5 (Stp.refl _ _ _ _) J5 _ (rep_bl.mpr rfl)
    | true =>
      rw [if_pos rfl]
      rw [if_pos rfl] at k6
      refine hd A σ H5 G5 hs4 own η s4 _ (((((I.step S1 J1).step S2 J2).step S3 J3).step S4 J4).step S5 J5) (k6.bind.mono fun q2 G6 hs6 s6 H6 S6 J6 h6 w6 hw6 => ?_)
      obtain ⟨z6, e6, k7⟩ := h6.ofO
      exact hr'' G6 hs6 s6 H6 _ _ z6 w4 w6 _ J6 (((hw4.step S5).step S6).read J6) (hw6.read J6) e6 fun G7 H7 S7 J7 w hw => k7 G7 hs6 H7 S7 J7 w hw
theorem de_ch3 {op op' op'' : CmpOp} {o o' o'' : D → D → Option D} (ho : OpD M X (compareOp op) o) (ho' : OpD M X (compareOp op') o') (ho'' : OpD M X (compareOp op'') o'') (ha : DB M X W a fa) (hb : DB M X W b fb) (hc : DB M X W c fc) (hd : DB M X W d fd) (hm : lastMarks [op, op', op''] [b, c, d] = false := by with_unfolding_all rfl) :
    DE M X W (.Compare a [op, op', op''] [b, c, d] pos) (ch3D o o' o'' fa fb fc fd) := by
  obtain ⟨r, hr, h⟩ := ho.ex
  obtain ⟨r', hr', h'⟩ := ho'.ex
  obtain ⟨r'', hr'', h''⟩ := ho''.ex
  obtain ⟨ta, pa, ha⟩ := ha.ex
  obtain ⟨tb, pb, hb⟩ := hb.ex
  obtain ⟨tc, pc, hc⟩ := hc.ex
  obtain ⟨td, pd, hd⟩ := hd.ex
  exact ⟨_, pe_chain3 hr hr' hr'' pa pb pc pd hm, fun A σ H G hs own η s Q I hp => ch3_run (op := compareOp op) (op' := compareOp op') (op'' := compareOp op'') h h' h'' ha hb hc hd I hp⟩
theorem dt_ch3 {op op' op'' : CmpOp} {o o' o'' : D → D → Option D} (ho : OpD M X (compareOp op) o) (ho' : OpD M X (compareOp op') o') (ho'' : OpD M X (compareOp op'') o'') (ha : DB M X W a fa) (hb : DB M X W b fb) (hc : DB M X W c fc) (hd : DB M X W d fd) (hm : lastMarks [op, op', op''] [b, c, d] = false := by with_unfolding_all rfl) :
    DT M X W (.Compare a [op, op', op''] [b, c, d] pos) (tstD (ch3D o o' o'' fa fb fc fd)) := by
  obtain ⟨r, hr, h⟩ := ho.ex
  obtain ⟨r', hr', h'⟩ := ho'.ex
  obtain ⟨r'', hr'', h''⟩ := ho''.ex
  obtain ⟨ta, pa, ha⟩ := ha.ex
  obtain ⟨tb, pb, hb⟩ := hb.ex
  obtain ⟨tc, pc, hc⟩ := hc.ex
  obtain ⟨td, pd, hd⟩ := hd.ex
  exact ⟨_, pt_chain3 hr hr' hr'' pa pb pc pd hm, fun A σ H G hs own η s Q I hp => tst_run (f := ch3D o o' o'' fa fb fc fd) (fun Q hp => ch3_run (op := compareOp op) (op' := compareOp op') (op'' := compareOp op'') h h' h'' ha hb hc hd I hp) hp⟩
theorem ch3D_eq {o o' o'' : D → D → Option D} {η : DL.Env} {s : DS} : ch3D o o' o'' fa fb fc fd η s = (fa η s).bnd fun x s1 => (fb η s1).bnd fun y s2 => (R.ofO (o (deref s2 x) (deref s2 y)) s2).bnd fun z s3 =>
  (R.ofO (asB z) s3).bnd fun k s3 => if k = true then (fc η s3).bnd fun w s4 => (R.ofO (o' (deref s4 y) (deref s4 w)) s4).bnd fun z2 s5 =>
    (R.ofO (asB z2) s5).bnd fun k2 s5 => if k2 = true then (fd η s5).bnd fun q s6 => R.ofO (o'' (deref s6 w) (deref s6 q)) s6 else .ok (.bl false) s5 else .ok (.bl false) s3 := rfl
end
end DL
set_option Elab.async false
set_option linter.all false
set_option maxRecDepth 100000
set_option maxHeartbeats 2000000
namespace DL
open PySem PySem.Spec PyProof.Rows L2
/-! ### o.m(e, ..) of a built-in kind that writes nothing -/
structure MthD (M : Mp) (X : Cx) (T id : String) (ty : D → Bool) (o : D → List D → Option D) : Prop where
  ex : ∃ r, MtR X id r ∧ (∀ (G : Hp) (hs : List Addr) (s : DS) (H : Hp) (x : D) (v : V), Sim X.K M G hs s H → RV X.K M G hs H x v → ty x = true → tyV X.K T v H) ∧
    (∀ (G : Hp) (hs : List Addr) (s : DS) (H : Hp) (x z : D) (ds : List D) (v : V) (vs : List V) (Q : VK), Sim X.K M G hs s H → RV X.K M G hs H x v → RVL X.K M G hs H ds vs → o x ds = some z →
      (∀ G' H', Stp M G hs H G' hs H' → Sim X.K M G' hs s H' → ∀ w, Rep X.K M G' hs z w → Q w H') → r v vs H Q)
def mthD (ty : D → Bool) (o : D → List D → Option D) (fo : Env → DS → R D) (g : Env → DS → R (List D)) : Env → DS → R D := fun η s => (fo η s).bind fun x s1 => if ty (deref s1 x) = true then (g η s1).bind fun ds s2 => R.ofO (o (deref s2 x) (ds.map (deref s2))) s2 else .bad
section
variable {M : Mp} {X : Cx} {W : WX} {o e : Expr} {es : List Expr} {name : Str} {T id : String} {fo : Env → DS → R D} {g : Env → DS → R (List D)} {ty : D → Bool} {q : D → List D → Option D} {apos cpos : Pos}
theorem de_mth (pa : PlainAttrs T) (slot : Slot T name id) (hty : typeOf (.builtin id) = pure (.type "method_descriptor")) (hm : MthD M X T id ty q) (ho : DB M X W o fo) (ha : DAB M X W (e :: es) g)
    (hbase : attributeBase o name X.env (eval o X.env) = eval o X.env := by rfl)
    (hfew : ((backTo cpos (starEach (e :: es) X.env)).all (fun x => !x.1) && (backToKw cpos (keywordEach [] X.env)).all (fun x => x.1.isSome)
      && decide ((e :: es).length + ([] : List Keyword).length + (if ([] : List Keyword).isEmpty then 0 else 1) < 30)) = true := by rfl)
    (hline : (apos.endLine == cpos.line) = true := by rfl) (hse : starEach (e :: es) X.env = (false, eval e X.env) :: starEach es X.env := by rfl) (hplain : (backTo cpos (starEach es X.env)).any (·.1) = false := by rfl) :
    DE M X W (.Call (.Attribute o name apos) (e :: es) [] cpos) (mthD ty q fo g) := by
  obtain ⟨r, hr, hT, kw⟩ := hm.ex
  obtain ⟨t, p, h⟩ := ho.ex
  obtain ⟨ta, pa2, k⟩ := ha.ex
  refine ⟨_, pe_bm pa slot hty hr p pa2 hbase hfew hline hse hplain, fun A σ H G hs own η s Q I hp => ?_⟩
  refine h A σ H G hs own η s _ I (hp.bind.mono fun x G1 hs1 s1 H1 S1 J1 h1 v hv => ?_)
  split at h1
  · rename_i ht
    refine ⟨hT _ _ _ _ _ _ J1 (hv.read J1) ht, k A σ H1 G1 hs1 own η s1 _ (I.step S1 J1) (h1.bind.mono fun ds G2 hs2 s2 H2 S2 J2 h2 vs hvs => ?_)⟩
    obtain ⟨z, e2, k2⟩ := h2.ofO
    exact kw G2 hs2 s2 H2 _ z _ v vs Q J2 ((hv.step S2).read J2) (hvs.read J2) e2 fun G3 H3 S3 J3 w hw => k2 G3 hs2 H3 S3 J3 w hw
  · exact h1.elim
theorem de_mth0 (pa : PlainAttrs T) (slot : Slot T name id) (hty : typeOf (.builtin id) = pure (.type "method_descriptor")) (hm : MthD M X T id ty q) (ho : DB M X W o fo)
    (hbase : attributeBase o name X.env (eval o X.env) = eval o X.env := by rfl) (hline : (apos.endLine == cpos.line) = true := by rfl) :
    DE M X W (.Call (.Attribute o name apos) [] [] cpos) (mthD ty q fo nilA) := by
  obtain ⟨r, hr, hT, kw⟩ := hm.ex
  obtain ⟨t, p, h⟩ := ho.ex
  refine ⟨_, pe_bm0 pa slot hty hr p hbase hline, fun A σ H G hs own η s Q I hp => ?_⟩
  refine h A σ H G hs own η s _ I (hp.bind.mono fun x G1 hs1 s1 H1 S1 J1 h1 v hv => ?_)
  split at h1
  · rename_i ht
    refine ⟨hT _ _ _ _ _ _ J1 (hv.read J1) ht, ?_⟩
    have h2 : RPost X.K M σ W G1 hs1 H1 (R.ofO (q (deref s1 x) []) s1) (fun d G' hs' _ H' => ∀ v, Rep X.K M G' hs' d v → Q v H') := h1
    obtain ⟨z, e2, k2⟩ := h2.ofO
    exact kw G1 hs1 s1 H1 _ z [] v [] Q J1 (hv.read J1) Paired.nil e2 fun G3 H3 S3 J3 w hw => k2 G3 hs1 H3 S3 J3 w hw
  · exact h1.elim
theorem ty_list {G H : Hp} {hs : List Addr} {s : DS} {x : D} {v : V} (J : Sim X.K M G hs s H) (h : RV X.K M G hs H x v) (e : isLst x = true) : tyV X.K "list" v H := by
  cases x <;> try cases e
  rename_i l
  obtain ⟨a, vs, rfl, h1, _⟩ := h.lst J
  exact .inl ⟨rfl, vs, .inl (.inl h1)⟩
theorem u65 {k : Nat} {A : Around} (r : Room k A) : A.units + 65 < cLine := by have := r.un; omega
theorem tm_list_index : typeOf (.builtin "list.index") = pure (.type "method_descriptor") := by show builtinType _ = _; rw [builtinType_eq_fast]; kernel_rfl
/-- l.index(d) -/
def indexO : D → List D → Option D
  | .lst l, [d] => if eqOk (.lst l) d = true then (l.findIdx? fun y => eqB y d).map fun j => .int (j : Nat) else none
  | _, _ => none
theorem toPDL_get : ∀ {l : List D} {j : Nat}, (toPDL l)[j]? = (l[j]?).map toPD
  | [], j => by simp [toPDL]
  | d :: l, 0 => by simp [toPDL]
  | d :: l, j + 1 => by simp [toPDL, toPDL_get]
theorem md_index (hu : X.A.units + 65 < cLine) : MthD M X "list" "list.index" isLst indexO := by
  refine ⟨_, mt_indexD hu, fun G hs s H x v J h e => ty_list J h e, fun G hs s H x z ds v vs Q J hv hvs e k => ?_⟩
  unfold indexO at e
  split at e
  · rename_i l d
    split at e
    · rename_i ok
      obtain ⟨h1, h2, h3, h4⟩ := eqOk_of ok
      obtain ⟨u, rfl, hd⟩ := hvs.one
      obtain ⟨j, hj, rfl⟩ := Option.map_eq_some_iff.mp e
      obtain ⟨hlt, hp, hno⟩ := List.findIdx?_eq_some_iff_getElem.mp hj
      have dp := hv.dp J h1
      have hL : dOkL l = true := by simpa [dOk] using h1
      obtain ⟨a, ws, rfl, _, _⟩ := hv.lst J
      have okj : ∀ (m : Nat) (hm : m < l.length), dOk l[m] = true := fun m hm => dOkL_mem hL (List.getElem_mem hm)
      refine ⟨a, u, toPD d, toPDL l, j, toPD l[j], rfl, rfl, by simpa [toPD] using dp, hd.dp J h2, by simpa [toPD] using shaped_toPD h1 h3, shaped_toPD h2 h4, ?_, ?_, fun m z' hm hz => ?_, ?_⟩
      · rw [toPDL_get, List.getElem?_eq_getElem hlt]; rfl
      · rw [eqv_toPD _ _ (okj j hlt) h2]; exact hp
      · rw [toPDL_get, List.getElem?_eq_getElem (by omega)] at hz
        cases hz
        rw [eqv_toPD _ _ (okj m (by omega)) h2]
        simpa using hno m hm
      · exact k G H (Stp.refl _ _ _ _) J _ (rep_int.mpr rfl)
    · cases e
  · cases e
end
theorem mthD_eq {ty : D → Bool} {o : D → List D → Option D} {fo : Env → DS → R D} {g : Env → DS → R (List D)} {η : Env} {s : DS} : mthD ty o fo g η s = (fo η s).bnd fun x s1 => if ty (deref s1 x) = true then (g η s1).bnd fun ds s2 => R.ofO (o (deref s2 x) (ds.map (deref s2))) s2 else .bad := rfl
end DL
set_option Elab.async false
set_option linter.all false
set_option maxRecDepth 100000
set_option maxHeartbeats 2000000
/-! the dice of the laws -/
namespace DR
open PySem L2 DL
noncomputable def B_law_roll : DL.Env → DS → F := seqB (ifB (orT (tstD (bopD opEq (bopD opIx (vB 0) (cD (.int 2))) (cD (.int 2)))) (andT (tstD (bopD opEq (bopD opIx (vB 0) (cD (.int 2))) (cD (.int 1)))) (tstD (bopD opGt (bopD opIx (vB 0) (cD (.int 0))) (cD (.int 0)))))) (seqB (setB 2 (bopD opMod (bltD intO (consA (bopD opIx (vB 0) (cD (.int 0))) (nilA))) (vB 1))) (seqB (stB (bopD opDiv (bopD opIx (vB 0) (cD (.int 0))) (vB 1)) (plV 0) (cD (.int 0)) setL) (retB (vD 2)))) (nextB)) (seqB (stB (cD (.int 0)) (plV 0) (cD (.int 2)) setL) (seqB (stB (bopD opMod (bltD intO (consA (bopD opAdd (bopD opAdd (bopD opMul (bopD opIx (vB 0) (cD (.int 0))) (cD (.int 48271))) (bopD opMul (bopD opIx (vB 0) (cD (.int 1))) (cD (.int 69621)))) (cD (.int 11))) (nilA))) (cD (.int 2147483647))) (plV 0) (cD (.int 0)) setL) (seqB (stB (bopD opAdd (bopD opIx (vB 0) (cD (.int 1))) (cD (.int 1))) (plV 0) (cD (.int 1)) setL) (retB (bopD opMod (bltD intO (consA (bopD opAdd (bopD opDiv (bopD opIx (vB 0) (cD (.int 0))) (cD (.int 7))) (bopD opIx (vB 0) (cD (.int 0)))) (nilA))) (vB 1))))))
noncomputable def m_law_roll : List D → DS → R D := fnD 3 B_law_roll
noncomputable def B_law_dice : DL.Env → DS → F := seqB (ifB (tstD (chD opLt opLt (bopD opSub (cD (.int 0)) (cD (.int 10))) (vB 0) (cD (.int 10)))) (retB (hanD (lstD (consA (bltD absO (consA (vB 0) (nilA))) (consA (cD (.int 0)) (consA (cD (.int 2)) (nilA))))))) (nextB)) (retB (hanD (lstD (consA (vD 0) (consA (bopD opAdd (cD (.int 1)) (bopD opMod (bltD intO (consA (vB 0) (nilA))) (cD (.int 1009)))) (consA (bltD intO (consA (bopD opGe (vB 0) (bopD opPow (cD (.int 10)) (cD (.int 18)))) (nilA))) (nilA)))))))
noncomputable def m_law_dice : List D → DS → R D := fnD 1 B_law_dice
noncomputable def B_law_rounds : DL.Env → DS → F := seqB (setB 2 (sliceD (vB 0) (partN) (partS (vD 1)))) (seqB (ifB (tstD (bopD opEq (vB 2) (lstD (nilA)))) (setB 2 (lstD (consA (cD (.int 0)) (nilA)))) (nextB)) (retB (calmD (lcD (iterD scrO (vD 2)) (gN 3) (yesT) (callD (gateD 1 m_law_dice) (consA (vD 3) (nilA))) [3]))))
noncomputable def m_law_rounds : List D → DS → R D := fnD 4 B_law_rounds
structure Dc where
  a : Int
  b : Int
  c : Int
def Dc.d (x : Dc) : D := .lst [.int x.a, .int x.b, .int x.c]
def Dc.low (x : Dc) : Bool := decide (x.c = 2) || (decide (x.c = 1) && decide (0 < x.a))
def Dc.mix (x : Dc) : Int := (x.a * 48271 + x.b * 69621 + 11) % 2147483647
def Dc.roll (x : Dc) (m : Int) : Int := if x.low = true then x.a % m else (x.mix / 7 + x.mix) % m
def Dc.next (x : Dc) (m : Int) : Dc := if x.low = true then ⟨x.a / m, x.b, x.c⟩ else ⟨x.mix, x.b + 1, 0⟩
theorem Dc.roll_bd (x : Dc) {m : Int} (h : 0 < m) : 0 ≤ x.roll m ∧ x.roll m < m := by
  unfold Dc.roll
  split
  · exact ⟨Int.emod_nonneg _ (by omega), Int.emod_lt_of_pos _ h⟩
  · exact ⟨Int.emod_nonneg _ (by omega), Int.emod_lt_of_pos _ h⟩
local macro_rules | `(tactic| walk_at "dl") => `(tactic| simp -implicitDefEqProofs (disch := first | omega | assumption | (simp only [okN, okNL, okNL_mi, D.has, hasL, flt, isI, isS, List.all_cons, List.all_nil, Bool.or_true, Bool.true_or, Bool.false_or, Bool.false_and, Bool.and_self, Bool.and_true, Bool.true_and]; done) | (simp only [List.length_cons, List.length_nil, List.length_append, List.length_map, List.length_range]; omega) | (simp only [okN, okNL, Bool.and_self, Bool.and_true, Bool.true_and]; decide +kernel) | decide +kernel | fail) only [ seqB_eq, then_nx, then_rt, then_bk, then_ct, then_ex, then_bad, bind_ok, bind_ex, bind_bad, toF_ok, toF_ex, toF_bad, ofO_some, ofO_none, nx_ok, cD_eq, vD_0, vD_s, vB_0, vB_o, vB_s, bopD_eq, uopD_eq, tstD_eq, asB_bl, asI_int, deref_int, deref_bl, deref_str, deref_non, deref_tup, deref_lst, deref_dic, deref_obj, deref_scr, deref_han, chD_eq, ch3D_eq, andT_eq, orT_eq, notT_eq, ifD_eq, andD_eq, orD_eq, notD_eq, nilA_eq, consA_eq, tupD_eq, lstD_eq, fldD_eq, bltD_eq, partN_eq, partS_eq, sliceD_eq, callD_eq, gateD_eq, methD_eq, isC_obj, calmD_eq, calmN_eq, calmK_obj, hanD_eq, notObj_l, notObj_t, notObj_d, setB_eq, setOB_eq, setF_eq, setOF_eq, ifB_eq, retB_eq, retN_eq, dropB_eq, nextB_eq, breakB_eq, contB_eq, raiseA_eq, augB_eq, frzB_eq, frzL_nil, frzL_cons, frzE_zl, frzE_zd, frzE_zv, frzE_zn, frzE_s, asgB_eq, asg2B_eq, parB_eq, putAll_nil, putAll_cons, asgFB_eq, nilF_eq, consV_eq, consO_eq, gN_eq, gsN_eq, gsC_eq, gT_eq, fnD_eq, fnK_nx, fnK_rt, fnK_ex, fnK_bad, inD_eq, inK_nx, inK_ex, toldD_eq,  ite_yes, ite_no, dec_yes, dec_no, plV_eq, plK_o, plK_h, plE_eq, plEK_h, wrF_slot, wrF_han, wrS_o, wrH_s, wrSU_s, wrHU_s, fldB_eq, fldU_eq, stB_eq, stAK_s, stAugB_eq, fldAugB_eq, plcD_slot, plcD_han, plS_o, mtB_eq, mthD_eq, isLst_l, appU_l, setL_l, getL_l, ixN_ok, atI_0, atI_1, atI_2, atI_3, atI_4, atI_5, atI_6, atI_7, atI_8, atI_9, atI_10, atI_11, atI_12, atI_13, atI_14, atI_15, forB_eq, rngD_eq, iterD_eq, rng1_int, rng2_int, scrO_l, scrO_s, lstO_l, tupO_l, putK_some, goK_nx, goK_ct, goK_bk, goK_rt, goK_ex, lcD_eq, wipeE_nil, wipeE_cons, yesT_eq, lcPut_some, wipB_eq, forW_eq, preB_eq, wip_nx, wip_bk, wip_ct, wip_rt, wip_ex, wip_bad, keep_t, keep_f, keep_n, asgO_s, asgK_eq, asgFK_eq, putS_nil, putS_v, putS_o, and_self, ite_self, wrS_o, wrSU_s, true_and, and_true, false_and, and_false, decide_true, decide_false, Int.reduceLT, Int.reduceLE, Int.reduceEq, Int.reduceAdd, Int.reduceSub, Int.reduceMul, Int.reduceNeg, Int.reduceDiv, Int.reduceMod, Int.reduceNe, turnF_eq,
  cut_to, cut_from, cut_both, opCut_l, opCut_t, opCut_s, opPow_int, opAdd_tup, opAdd_lst, opEq_ts, opEq_ls, opEq_st, opEq_sl, opNe_ts, opNe_ls, opNe_st, opNe_sl, opEq_ss, opNe_ss, opEq_nn, opNe_self, opEq_self, opNe_nn, opNe_lnil, opEq_lnil, opNe_is, opEq_is, opNe_si, opEq_si, opNe_bb, opEq_bb, opAdd_int, opAug_int, opSub_int, opMul_r, opMul_l, opMulI_r, opMulI_l, opDiv_int, opMod_int, opLt_int, opLe_int, opGt_int, opGe_int, opEq_int, opNe_int, min2_int, max2_int, min3_int, min4_int, opNeg_int, listO_l, listO_t, tupleO_l, tupleO_t, zipO_ll, zipO_tt, enumO_l, lenO_l, lenO_t, opIn_lst, opIn_tup, opNin_lst, opNin_tup, eqB_ss, eqB_ii, List.any_cons, List.any_nil, gSumD_eq, gAnyD_eq, anyF_nil, anyPut_some, absO_int, intO_int, intO_bl, fldO_eq, opIx_t, opIx_l,
  Bool.true_and, Bool.and_true, Bool.false_and, Bool.and_false, List.map_cons, List.map_nil, List.length_cons, List.length_nil, List.set_cons_zero, List.set_cons_succ, List.getElem?_cons_zero, List.getElem?_cons_succ, Option.map_some, Option.bind_some, decide_eq_true_eq, Bool.not_eq_true', decide_eq_false_iff_not, Bool.not_true, Bool.false_eq_true, reduceCtorEq, Bool.not_false, ite_true, ite_false, if_true, if_false, Nat.reduceAdd, Nat.reduceLeDiff, Nat.reduceLT, Nat.reduceSub, beq_self_eq_true, Nat.reduceEqDiff, reduceIte, Int.reduceToNat, Int.reducePow, List.take_zero, List.take_nil, List.drop_nil, List.drop_zero, List.take_succ_cons, List.drop_succ_cons, forF_nil, padE, List.length_append, List.replicate, List.append_nil, List.cons_append, List.nil_append])
theorem roll_eq (x : Dc) (m : Int) (t : DS) (h : 0 < m ∧ m < 18446744073709551616) : m_law_roll [.han 0, .int m] (x.d :: t) = .ok (.int (x.roll m)) ((x.next m).d :: t) := by
  obtain ⟨a, b, c⟩ := x
  unfold m_law_roll B_law_roll Dc.roll Dc.next Dc.low Dc.mix
  simp only [Dc.d]
  by_cases h2 : c = 2
  · subst h2
    walk_at "dl"
    try simp
  · by_cases h1 : c = 1
    · subst h1
      by_cases h0 : 0 < a
      · walk_at "dl"
      · walk_at "dl"
    · walk_at "dl"
      try simp [h1, h2]
theorem Dc.low_t (x : Dc) : x.low = x.low := rfl
def start (c : Int) : Dc := if -10 < c ∧ c < 10 then ⟨c.natAbs, 0, 2⟩ else ⟨c, 1 + c % 1009, if 10 ^ 18 ≤ c then 1 else 0⟩
theorem dice_eq (c : Int) (s : DS) : m_law_dice [.int c] s = .ok (.han s.length) (s ++ [(start c).d]) := by
  unfold m_law_dice B_law_dice start
  simp only [Dc.d]
  by_cases h : -10 < c ∧ c < 10
  · rw [if_pos h]
    walk_at "dl"
  · rw [if_neg h]
    by_cases h1 : -10 < c
    · walk_at "dl"
    · walk_at "dl"
local macro_rules | `(tactic| walk_at "dlr") => `(tactic| simp -implicitDefEqProofs (disch := first | omega | assumption | (simp only [okN, okNL, okNL_mi, D.has, hasL, flt, isI, isS, List.all_cons, List.all_nil, Bool.or_true, Bool.true_or, Bool.false_or, Bool.false_and, Bool.and_self, Bool.and_true, Bool.true_and]; done) | (simp only [List.length_cons, List.length_nil, List.length_append, List.length_map, List.length_range]; omega) | (simp only [okN, okNL, Bool.and_self, Bool.and_true, Bool.true_and]; decide +kernel) | decide +kernel | fail) only [dice_eq, lcF_cons, lcF_nil, opEq_lnil, seqB_eq, then_nx, then_rt, then_bk, then_ct, then_ex, then_bad, bind_ok, bind_ex, bind_bad, toF_ok, toF_ex, toF_bad, ofO_some, ofO_none, nx_ok, cD_eq, vD_0, vD_s, vB_0, vB_o, vB_s, bopD_eq, uopD_eq, tstD_eq, asB_bl, asI_int, deref_int, deref_bl, deref_str, deref_non, deref_tup, deref_lst, deref_dic, deref_obj, deref_scr, deref_han, chD_eq, ch3D_eq, andT_eq, orT_eq, notT_eq, ifD_eq, andD_eq, orD_eq, notD_eq, nilA_eq, consA_eq, tupD_eq, lstD_eq, fldD_eq, bltD_eq, partN_eq, partS_eq, sliceD_eq, callD_eq, gateD_eq, methD_eq, isC_obj, calmD_eq, calmN_eq, calmK_obj, hanD_eq, notObj_l, notObj_t, notObj_d, setB_eq, setOB_eq, setF_eq, setOF_eq, ifB_eq, retB_eq, retN_eq, dropB_eq, nextB_eq, breakB_eq, contB_eq, raiseA_eq, augB_eq, frzB_eq, frzL_nil, frzL_cons, frzE_zl, frzE_zd, frzE_zv, frzE_zn, frzE_s, asgB_eq, asg2B_eq, parB_eq, putAll_nil, putAll_cons, asgFB_eq, nilF_eq, consV_eq, consO_eq, gN_eq, gsN_eq, gsC_eq, gT_eq, fnD_eq, fnK_nx, fnK_rt, fnK_ex, fnK_bad, inD_eq, inK_nx, inK_ex, toldD_eq,  ite_yes, ite_no, dec_yes, dec_no, plV_eq, plK_o, plK_h, plE_eq, plEK_h, wrF_slot, wrF_han, wrS_o, wrH_s, wrSU_s, wrHU_s, fldB_eq, fldU_eq, stB_eq, stAK_s, stAugB_eq, fldAugB_eq, plcD_slot, plcD_han, plS_o, mtB_eq, mthD_eq, isLst_l, appU_l, setL_l, getL_l, ixN_ok, atI_0, atI_1, atI_2, atI_3, atI_4, atI_5, atI_6, atI_7, atI_8, atI_9, atI_10, atI_11, atI_12, atI_13, atI_14, atI_15, forB_eq, rngD_eq, iterD_eq, rng1_int, rng2_int, scrO_l, scrO_s, lstO_l, tupO_l, putK_some, goK_nx, goK_ct, goK_bk, goK_rt, goK_ex, lcD_eq, wipeE_nil, wipeE_cons, yesT_eq, lcPut_some, wipB_eq, forW_eq, preB_eq, wip_nx, wip_bk, wip_ct, wip_rt, wip_ex, wip_bad, keep_t, keep_f, keep_n, asgO_s, asgK_eq, asgFK_eq, putS_nil, putS_v, putS_o, and_self, ite_self, wrS_o, wrSU_s, true_and, and_true, false_and, and_false, decide_true, decide_false, Int.reduceLT, Int.reduceLE, Int.reduceEq, Int.reduceAdd, Int.reduceSub, Int.reduceMul, Int.reduceNeg, Int.reduceDiv, Int.reduceMod, Int.reduceNe, turnF_eq,
  cut_to, cut_from, cut_both, opCut_l, opCut_t, opCut_s, opPow_int, opAdd_tup, opAdd_lst, opEq_ts, opEq_ls, opEq_st, opEq_sl, opNe_ts, opNe_ls, opNe_st, opNe_sl, opEq_ss, opNe_ss, opEq_nn, opNe_self, opEq_self, opNe_nn, opNe_lnil, opEq_lnil, opNe_is, opEq_is, opNe_si, opEq_si, opNe_bb, opEq_bb, opAdd_int, opAug_int, opSub_int, opMul_r, opMul_l, opMulI_r, opMulI_l, opDiv_int, opMod_int, opLt_int, opLe_int, opGt_int, opGe_int, opEq_int, opNe_int, min2_int, max2_int, min3_int, min4_int, opNeg_int, listO_l, listO_t, tupleO_l, tupleO_t, zipO_ll, zipO_tt, enumO_l, lenO_l, lenO_t, opIn_lst, opIn_tup, opNin_lst, opNin_tup, eqB_ss, eqB_ii, List.any_cons, List.any_nil, gSumD_eq, gAnyD_eq, anyF_nil, anyPut_some, absO_int, intO_int, intO_bl, fldO_eq, opIx_t, opIx_l,
  Bool.true_and, Bool.and_true, Bool.false_and, Bool.and_false, List.map_cons, List.map_nil, List.length_cons, List.length_nil, List.set_cons_zero, List.set_cons_succ, List.getElem?_cons_zero, List.getElem?_cons_succ, Option.map_some, Option.bind_some, decide_eq_true_eq, Bool.not_eq_true', decide_eq_false_iff_not, Bool.not_true, Bool.false_eq_true, reduceCtorEq, Bool.not_false, ite_true, ite_false, if_true, if_false, Nat.reduceAdd, Nat.reduceLeDiff, Nat.reduceLT, Nat.reduceSub, beq_self_eq_true, Nat.reduceEqDiff, reduceIte, Int.reduceToNat, Int.reducePow, List.take_zero, List.take_nil, List.drop_nil, List.drop_zero, List.take_succ_cons, List.drop_succ_cons, forF_nil, padE, List.length_append, List.replicate, List.append_nil, List.cons_append, List.nil_append])
theorem rounds_eq (ns : List Int) : ∃ x : Dc, m_law_rounds [.scr ns, .int 1] [] = .ok (.lst [.han 0]) [x.d] := by
  cases ns with
  | nil =>
    refine ⟨start 0, ?_⟩
    unfold m_law_rounds B_law_rounds
    walk_at "dlr"
  | cons n ns =>
    refine ⟨start n, ?_⟩
    have h : okN 9 (.lst [.int n]) = true := by simp [okN, okNL]
    have h2 := opEq_lnil h
    unfold m_law_rounds B_law_rounds
    walk_at "dlr"
end DR
set_option Elab.async false
set_option linter.all false
set_option maxRecDepth 100000
set_option maxHeartbeats 2000000
/-! what many laws share -/
namespace DR
open PySem L2 DL
section
variable {η : DL.Env} {s : DS} {put : D → DL.Env → Option DL.Env} {ft : DL.Env → DS → R Bool} {fe : DL.Env → DS → R D}
/-- a comprehension whose parts change the handles -/
theorem lcF_rel {γ : Type} (e : γ → D) (l : List γ) (I : List γ → List D → DS → Prop) (h0 : I [] [] s)
    (k : ∀ (pre : List γ) (a : γ) (post : List γ) (ys : List D) (s : DS), l = pre ++ a :: post → I pre ys s → ∃ η1, put (e a) η = some η1 ∧ ∃ y s2, fe η1 s = .ok y s2 ∧ I (pre ++ [a]) (ys ++ [y]) s2) :
    ∃ ys s', lcF put yesT fe η (l.map e) s = .ok ys s' ∧ I l ys s' := by
  have key : ∀ (l2 pre : List γ) (ys : List D) (s : DS), l = pre ++ l2 → I pre ys s → ∃ zs s', lcF put yesT fe η (l2.map e) s = .ok zs s' ∧ I l (ys ++ zs) s' := by
    intro l2
    induction l2 with
    | nil =>
      intro pre ys s hl h
      rw [List.append_nil] at hl
      subst hl
      exact ⟨[], s, rfl, by rw [List.append_nil]; exact h⟩
    | cons a l2 ih =>
      intro pre ys s hl h
      obtain ⟨η1, e1, y, s2, e2, h2⟩ := k pre a l2 ys s hl h
      obtain ⟨zs, s', e3, h3⟩ := ih (pre ++ [a]) (ys ++ [y]) s2 (by rw [hl]; simp) h2
      refine ⟨y :: zs, s', ?_, by simpa using h3⟩
      rw [List.map_cons, lcF_cons, e1]
      simp only [lcPut_some, yesT_eq, nx_ok, bind_ok, if_true, e2, e3]
  obtain ⟨zs, s', e1, h1⟩ := key l [] [] s rfl h0
  exact ⟨zs, s', e1, by simpa using h1⟩
/-- a list of rolls -/
theorem lc_rolls {γ : Type} (e : γ → D) (l : List γ) (m : Int) (hm : 0 < m) (x : Dc) (t : DS) (y : Int → D) (k : ∀ a ∈ l, ∃ η1, put (e a) η = some η1 ∧ ∀ x : Dc, fe η1 (x.d :: t) = .ok (y (x.roll m)) ((x.next m).d :: t)) :
    ∃ (vs : List Int) (x' : Dc), lcF put yesT fe η (l.map e) (x.d :: t) = .ok (vs.map y) (x'.d :: t) ∧ vs.length = l.length ∧ ∀ v ∈ vs, 0 ≤ v ∧ v < m := by
  obtain ⟨ys, s', e1, vs, x', h1, h2, h3, h4⟩ := lcF_rel (put := put) (fe := fe) (η := η) (s := x.d :: t) e l (fun pre ys s => ∃ (vs : List Int) (x' : Dc), ys = vs.map y ∧ s = x'.d :: t ∧ vs.length = pre.length ∧ ∀ v ∈ vs, 0 ≤ v ∧ v < m) ⟨[], x, rfl, rfl, rfl, by simp⟩ (fun pre a post ys s hl ⟨vs, x', h1, h2, h3, h4⟩ => by
    subst h1 h2
    obtain ⟨η1, e1, e2⟩ := k a (by rw [hl]; simp)
    have b := x'.roll_bd hm
    refine ⟨η1, e1, _, _, e2 x', vs ++ [x'.roll m], _, by simp, rfl, by simp [h3], ?_⟩
    intro v hv
    rcases List.mem_append.mp hv with q | q
    · exact h4 v q
    · rw [List.mem_singleton] at q; subst q; exact b)
  subst h1 h2
  exact ⟨vs, x', e1, h3, h4⟩
/-- a comprehension over a fixed list, kept as it is -/
theorem lcF_all {γ : Type} (e : γ → D) (y : γ → D) (l : List γ) (h : ∀ a ∈ l, ∃ η1, put (e a) η = some η1 ∧ ft η1 s = .ok true s ∧ fe η1 s = .ok (y a) s) : lcF put ft fe η (l.map e) s = .ok (l.map y) s := by
  have := lcF_pure (put := put) (ft := ft) (fa := fe) (η := η) (s := s) e (fun _ => true) y l (fun a ha => by
    obtain ⟨η1, h1, h2, h3⟩ := h a ha
    exact ⟨η1, h1, h2, fun _ => h3⟩)
  rw [this, List.filter_eq_self.mpr (fun _ _ => rfl)]
end
theorem okN_ints : ∀ (l : List Int) (n : Nat), okNL n (l.map D.int) = true
  | [], _ => rfl
  | a :: l, n => by
    rw [List.map_cons, okNL, okN_ints l n]
    simp [okN]
theorem has_ints (l : List Int) : hasA (l.map D.int) .int = true := hasA_iff.mpr fun d hd => by
  obtain ⟨a, _, rfl⟩ := List.mem_map.mp hd
  rfl
theorem ints_get {l : List Int} {i : Nat} (h : i < l.length) : (l.map D.int)[i]? = some (.int (l[i]!)) := by
  rw [List.getElem?_map, List.getElem?_eq_getElem h, getElem!_pos l i h]
  rfl
theorem atI_ints {l : List Int} {i : Nat} (h : i < l.length) : atI (l.map D.int) (0 + (i : Int)) = some (.int (l[i]!)) := by
  rw [atI_at (by rw [List.length_map]; omega), show ((0 + (i : Int))).toNat = i by omega, ints_get h]
/-- a sum along the numbers -/
theorem sum_range : ∀ (f : Nat → Int) (n : Nat), ((List.range n).map f).sum = (List.range n).foldl (fun a i => a + f i) 0 := by
  intro f n
  induction n with
  | zero => rfl
  | succ n ih => rw [List.range_succ, List.map_append, List.sum_append, List.foldl_append, ih]; simp
theorem range_map_get {α : Type} [Inhabited α] (l : List α) : (List.range l.length).map (fun i => l[i]!) = l := by
  refine List.ext_getElem (by simp) fun i h1 h2 => ?_
  rw [List.getElem_map, List.getElem_range, getElem!_pos l i h2]
theorem zip_range {l m : List Int} (h : l.length = m.length) : l.zip m = (List.range l.length).map fun i => (l[i]!, m[i]!) := by
  refine List.ext_getElem (by simp; omega) fun i h1 h2 => ?_
  rw [List.length_map, List.length_range] at h2
  rw [List.getElem_zip, List.getElem_map, List.getElem_range, getElem!_pos l i h2, getElem!_pos m i (by omega)]
theorem zipL_ints : ∀ (l m : List Int), zipL (l.map D.int) (m.map D.int) = (l.zip m).map fun p => D.tup [.int p.1, .int p.2]
  | [], _ => by simp [zipL]
  | _ :: _, [] => by simp [zipL]
  | a :: l, b :: m => by simp [zipL, zipL_ints l m]
end DR
set_option Elab.async false
set_option linter.all false
set_option maxRecDepth 100000
set_option maxHeartbeats 2000000
/-! least, greatest, halving -/
namespace DR
open PySem L2 DL
theorem maxF_ints : ∀ (l : List Int) (a : Int), maxF (.int a) (l.map D.int) = .int (l.foldl max a)
  | [], a => rfl
  | b :: l, a => by
    rw [List.map_cons, maxF, List.foldl_cons, List.foldl_cons, ltD_int, show (if decide (a < b) = true then D.int b else D.int a) = D.int (max a b) by
      by_cases h : a < b
      · rw [if_pos (by simpa using h), show max a b = b by omega]
      · rw [if_neg (by simpa using h), show max a b = a by omega]]
    exact maxF_ints l (max a b)
theorem minF_ints : ∀ (l : List Int) (a : Int), minF (.int a) (l.map D.int) = .int (l.foldl min a)
  | [], a => rfl
  | b :: l, a => by
    rw [List.map_cons, minF, List.foldl_cons, List.foldl_cons, ltD_int, show (if decide (b < a) = true then D.int b else D.int a) = D.int (min a b) by
      by_cases h : b < a
      · rw [if_pos (by simpa using h), show min a b = b by omega]
      · rw [if_neg (by simpa using h), show min a b = a by omega]]
    exact minF_ints l (min a b)
theorem foldl_max : ∀ (l : List Int) (a : Int), l.foldl max a ∈ a :: l ∧ ∀ x ∈ a :: l, x ≤ l.foldl max a
  | [], a => by simp
  | b :: l, a => by
    have ih := foldl_max l (max a b)
    rw [List.foldl_cons]
    generalize l.foldl max (max a b) = m at *
    have h1 := ih.2 (max a b) List.mem_cons_self
    refine ⟨?_, fun x hx => ?_⟩
    · rcases List.mem_cons.mp ih.1 with h | h
      · rcases (show max a b = a ∨ max a b = b by omega) with e | e
        · rw [h, e]; exact List.mem_cons_self
        · rw [h, e]; exact List.mem_cons_of_mem _ List.mem_cons_self
      · exact List.mem_cons_of_mem _ (List.mem_cons_of_mem _ h)
    · rcases List.mem_cons.mp hx with h | h
      · omega
      · rcases List.mem_cons.mp h with h | h
        · omega
        · exact ih.2 x (List.mem_cons_of_mem _ h)
theorem foldl_min : ∀ (l : List Int) (a : Int), l.foldl min a ∈ a :: l ∧ ∀ x ∈ a :: l, l.foldl min a ≤ x
  | [], a => by simp
  | b :: l, a => by
    have ih := foldl_min l (min a b)
    rw [List.foldl_cons]
    generalize l.foldl min (min a b) = m at *
    have h1 := ih.2 (min a b) List.mem_cons_self
    refine ⟨?_, fun x hx => ?_⟩
    · rcases List.mem_cons.mp ih.1 with h | h
      · rcases (show min a b = a ∨ min a b = b by omega) with e | e
        · rw [h, e]; exact List.mem_cons_self
        · rw [h, e]; exact List.mem_cons_of_mem _ List.mem_cons_self
      · exact List.mem_cons_of_mem _ (List.mem_cons_of_mem _ h)
    · rcases List.mem_cons.mp hx with h | h
      · omega
      · rcases List.mem_cons.mp h with h | h
        · omega
        · exact ih.2 x (List.mem_cons_of_mem _ h)
theorem ok_i (l : List Int) : ∀ x ∈ l.map D.int, okN 9 x = true ∧ x.has .int = true := by
  intro x hx
  obtain ⟨a, _, rfl⟩ := List.mem_map.mp hx
  exact ⟨by simp [okN], rfl⟩
theorem max_ints {l : List Int} {m : Int} (hm : m ∈ l) (h : ∀ x ∈ l, x ≤ m) : maxO [.lst (l.map D.int)] = some (.int m) := by
  cases l with
  | nil => cases hm
  | cons a l =>
    rw [List.map_cons, maxO_sh .int (ok_i (a :: l)), maxF_ints]
    have k := foldl_max l a
    have h1 := h _ k.1
    have h2 := k.2 _ hm
    rw [show l.foldl max a = m by omega]
theorem min_ints {l : List Int} {m : Int} (hm : m ∈ l) (h : ∀ x ∈ l, m ≤ x) : minO [.lst (l.map D.int)] = some (.int m) := by
  cases l with
  | nil => cases hm
  | cons a l =>
    rw [List.map_cons, minO_sh .int (ok_i (a :: l)), minF_ints]
    have k := foldl_min l a
    have h1 := h _ k.1
    have h2 := k.2 _ hm
    rw [show l.foldl min a = m by omega]
theorem max_some {l : List Int} (h : l ≠ []) : ∃ m, maxO [.lst (l.map D.int)] = some (.int m) ∧ m ∈ l ∧ ∀ x ∈ l, x ≤ m := by
  cases l with
  | nil => exact absurd rfl h
  | cons a l =>
    have k := foldl_max l a
    exact ⟨_, max_ints k.1 k.2, k.1, k.2⟩
theorem min_some {l : List Int} (h : l ≠ []) : ∃ m, minO [.lst (l.map D.int)] = some (.int m) ∧ m ∈ l ∧ ∀ x ∈ l, m ≤ x := by
  cases l with
  | nil => exact absurd rfl h
  | cons a l =>
    have k := foldl_min l a
    exact ⟨_, min_ints k.1 k.2, k.1, k.2⟩
/-- halving: the last that holds -/
def halvC (x : Int × Int) : Bool := decide (1 < x.2 - x.1)
def halvS (p : Int → Bool) (x : Int × Int) : Int × Int := if p ((x.1 + x.2) / 2) = true then ((x.1 + x.2) / 2, x.2) else (x.1, (x.1 + x.2) / 2)
theorem halv_run (p : Int → Bool) : ∀ (n : Nat) (lo hi : Int), lo < hi → (hi - lo).toNat ≤ n → ∃ r, whRun halvC (halvS p) n (lo, hi) = (r, r + 1) ∧ lo ≤ r ∧ r < hi ∧ (r = lo ∨ p r = true) ∧ (r + 1 = hi ∨ p (r + 1) = false)
  | 0, lo, hi, h, hn => by omega
  | n + 1, lo, hi, h, hn => by
    rw [whRun]
    by_cases hc : 1 < hi - lo
    · rw [if_pos (by simpa [halvC] using hc)]
      unfold halvS
      simp only
      cases q : p ((lo + hi) / 2) with
      | true =>
        rw [if_pos rfl]
        obtain ⟨r, e, h1, h2, h3, h4⟩ := halv_run p n ((lo + hi) / 2) hi (by omega) (by omega)
        refine ⟨r, e, by omega, h2, ?_, h4⟩
        rcases h3 with h3 | h3
        · subst h3; exact .inr q
        · exact .inr h3
      | false =>
        rw [if_neg (by simp)]
        obtain ⟨r, e, h1, h2, h3, h4⟩ := halv_run p n lo ((lo + hi) / 2) (by omega) (by omega)
        refine ⟨r, e, h1, by omega, h3, ?_⟩
        rcases h4 with h4 | h4
        · rw [h4]; exact .inr q
        · exact .inr h4
    · rw [if_neg (by simpa [halvC] using hc)]
      exact ⟨lo, by rw [show hi = lo + 1 by omega], by omega, by omega, .inl rfl, .inl (by omega)⟩
/-- halving: the first that holds -/
def leftC (x : Int × Int) : Bool := decide (x.1 < x.2)
def leftS (p : Int → Bool) (x : Int × Int) : Int × Int := if p ((x.1 + x.2) / 2) = true then (x.1, (x.1 + x.2) / 2) else ((x.1 + x.2) / 2 + 1, x.2)
theorem left_run (p : Int → Bool) : ∀ (n : Nat) (lo hi : Int), lo ≤ hi → (hi - lo).toNat ≤ n → ∃ r, whRun leftC (leftS p) n (lo, hi) = (r, r) ∧ lo ≤ r ∧ r ≤ hi ∧ (r = hi ∨ p r = true) ∧ (r = lo ∨ p (r - 1) = false)
  | 0, lo, hi, h, hn => ⟨lo, by rw [whRun, show hi = lo by omega], by omega, by omega, .inl (by omega), .inl rfl⟩
  | n + 1, lo, hi, h, hn => by
    rw [whRun]
    by_cases hc : lo < hi
    · rw [if_pos (by simpa [leftC] using hc)]
      unfold leftS
      simp only
      cases q : p ((lo + hi) / 2) with
      | true =>
        rw [if_pos rfl]
        obtain ⟨r, e, h1, h2, h3, h4⟩ := left_run p n lo ((lo + hi) / 2) (by omega) (by omega)
        refine ⟨r, e, h1, by omega, ?_, h4⟩
        rcases h3 with h3 | h3
        · rw [h3]; exact .inr q
        · exact .inr h3
      | false =>
        rw [if_neg (by simp)]
        obtain ⟨r, e, h1, h2, h3, h4⟩ := left_run p n ((lo + hi) / 2 + 1) hi (by omega) (by omega)
        refine ⟨r, e, by omega, h2, h3, ?_⟩
        rcases h4 with h4 | h4
        · rw [h4, Int.add_sub_cancel]; exact .inr q
        · exact .inr h4
    · rw [if_neg (by simpa [leftC] using hc)]
      exact ⟨lo, by rw [show hi = lo by omega], by omega, by omega, .inl (by omega), .inl rfl⟩
end DR
set_option Elab.async false
set_option linter.all false
set_option maxRecDepth 100000
set_option maxHeartbeats 2000000
/-! lists: their first, last, parts -/
namespace DR
open PySem L2 DL
theorem opNe_nil {l : List D} (ok : okN 9 (.lst l) = true) (h : l ≠ []) : opNe (.lst l) (.lst []) = some (.bl true) := by
  cases l with
  | nil => exact absurd rfl h
  | cons a l => exact opNe_lnil ok
theorem opEq_nil {l : List D} (ok : okN 9 (.lst l) = true) (h : l ≠ []) : opEq (.lst l) (.lst []) = some (.bl false) := by
  cases l with
  | nil => exact absurd rfl h
  | cons a l => exact opEq_lnil ok
/-- a row of whole numbers is told apart -/
theorem okN_imap {γ : Type} (f : γ → Int) (l : List γ) : okN 9 (.lst (l.map fun a => D.int (f a))) = true := by
  have := okN_ints (l.map f) 8
  rw [List.map_map] at this
  rw [okN]
  exact this
theorem range_at {n : Nat} {pre post : List Nat} {a : Nat} (h : List.range n = pre ++ a :: post) : a = pre.length ∧ pre.length < n := by
  have h1 : (List.range n)[pre.length]? = some a := by rw [h]; simp
  have h2 := congrArg List.length h
  simp at h2
  rw [List.getElem?_range (by omega)] at h1
  exact ⟨(Option.some.inj h1).symm, by omega⟩
/-- the numbers of a row, by place -/
theorem atI_rmap {n : Nat} (y : Nat → D) {i : Int} (h : 0 ≤ i ∧ i < n) : atI ((List.range n).map y) i = some (y i.toNat) := by
  rw [atI_at (by rw [List.length_map, List.length_range]; omega), List.getElem?_map, List.getElem?_range (by omega)]
  rfl
theorem filter_lt {p : Nat → Bool} {n L : Nat} (hL : L ≤ n) (h : ∀ k, k < n → (p k = true ↔ k < L)) : (List.range n).filter p = List.range L := by
  obtain ⟨c, rfl⟩ := Nat.exists_eq_add_of_le hL
  rw [List.range_add, List.filter_append]
  have h1 : (List.range L).filter p = List.range L := List.filter_eq_self.mpr fun k hk => (h k (by have := List.mem_range.mp hk; omega)).mpr (List.mem_range.mp hk)
  have h2 : ((List.range c).map (L + ·)).filter p = [] := List.filter_eq_nil_iff.mpr fun k hk => by
    obtain ⟨j, hj, rfl⟩ := List.mem_map.mp hk
    have hj := List.mem_range.mp hj
    intro z
    have := (h (L + j) (by omega)).mp z
    omega
  rw [h1, h2, List.append_nil]
theorem filter_mid {p : Nat → Bool} {n a c : Nat} (hc : a + c ≤ n) (h : ∀ k, k < n → (p k = true ↔ a ≤ k ∧ k < a + c)) : (List.range n).filter p = (List.range c).map (a + ·) := by
  obtain ⟨e, rfl⟩ := Nat.exists_eq_add_of_le hc
  rw [Nat.add_assoc, List.range_add, List.range_add, List.map_append, List.filter_append, List.filter_append]
  have h1 : (List.range a).filter p = [] := List.filter_eq_nil_iff.mpr fun k hk => by
    have hk := List.mem_range.mp hk
    intro z
    have := (h k (by omega)).mp z
    omega
  have h2 : ((List.range c).map (a + ·)).filter p = (List.range c).map (a + ·) := List.filter_eq_self.mpr fun k hk => by
    obtain ⟨j, hj, rfl⟩ := List.mem_map.mp hk
    have hj := List.mem_range.mp hj
    exact (h (a + j) (by omega)).mpr ⟨by omega, by omega⟩
  have h3 : (((List.range e).map (c + ·)).map (a + ·)).filter p = [] := List.filter_eq_nil_iff.mpr fun k hk => by
    obtain ⟨j, hj, rfl⟩ := List.mem_map.mp hk
    obtain ⟨i, hi, rfl⟩ := List.mem_map.mp hj
    have hi := List.mem_range.mp hi
    intro z
    have := (h (a + (c + i)) (by omega)).mp z
    omega
  rw [h1, h2, h3, List.append_nil, List.nil_append]
theorem enumL_rmap (n : Nat) (y : Nat → D) : enumL 0 ((List.range n).map y) = (List.range n).map fun i : Nat => D.tup [.int (0 + (i : Int)), y i] := by
  refine List.ext_getElem? fun i => ?_
  rw [enumL_get, List.getElem?_map, List.getElem?_map]
  cases q : (List.range n)[i]? with
  | none => rfl
  | some j =>
    obtain ⟨h1, h2⟩ := List.getElem?_eq_some_iff.mp q
    rw [List.getElem_range] at h2
    subst h2
    rfl
theorem zipL_map {α β : Type} (f : α → D) (g : β → D) : ∀ (l : List α) (m : List β), zipL (l.map f) (m.map g) = (l.zip m).map fun p => D.tup [f p.1, g p.2]
  | [], _ => by simp [zipL]
  | _ :: _, [] => by simp [zipL]
  | a :: l, b :: m => by simp [zipL, zipL_map f g l m]
theorem mem_get {l : List Int} {i : Nat} (h : i < l.length) : l[i]! ∈ l := by
  rw [getElem!_pos l i h]; exact List.getElem_mem h
theorem intsOf_fmap {γ : Type} (f : γ → Int) (l : List γ) : intsOf (l.map fun a => D.int (f a)) = some (l.map f) := by
  have := intsOf_map (l.map f)
  rwa [List.map_map] at this
theorem sum_ones {γ : Type} (l : List γ) : (l.map fun _ => (1 : Int)).sum = l.length := by
  induction l with
  | nil => rfl
  | cons a l ih => rw [List.map_cons, List.sum_cons, ih, List.length_cons]; omega
theorem whRun_up {T : Nat} : ∀ (n i : Nat), i ≤ T → T - i ≤ n → whRun (fun i : Nat => decide (i < T)) (fun i => i + 1) n i = T
  | 0, i, h, hn => by rw [whRun]; omega
  | n + 1, i, h, hn => by
    rw [whRun]
    by_cases hc : i < T
    · rw [if_pos (by simpa using hc)]
      exact whRun_up n (i + 1) (by omega) (by omega)
    · rw [if_neg (by simpa using hc)]
      omega
/-- a sum of ones: how many hold -/
theorem filter_and {γ : Type} {p q r : γ → Bool} {l : List γ} (h : ∀ a ∈ l, (r a = true ↔ p a = true ∧ q a = true)) : (l.filter p).filter q = l.filter r := by
  rw [List.filter_filter]
  refine List.filter_congr fun a ha => ?_
  have := h a ha
  cases hp : p a <;> cases hq : q a <;> cases hr : r a <;> simp_all
end DR
set_option Elab.async false
set_option linter.all false
set_option maxRecDepth 100000
set_option maxHeartbeats 2000000
/-! least and greatest rows -/
namespace DR
open PySem L2 DL
/-- the first of the least -/
def fmin {γ : Type} (lt : γ → γ → Bool) (l : List γ) (a : γ) : γ := l.foldl (fun a y => if lt y a = true then y else a) a
def fmax {γ : Type} (lt : γ → γ → Bool) (l : List γ) (a : γ) : γ := l.foldl (fun a y => if lt a y = true then y else a) a
structure Ord {γ : Type} (lt : γ → γ → Bool) : Prop where
  asy : ∀ a b, lt a b = true → lt b a = false
  tr : ∀ a b c, lt a b = false → lt b c = false → lt a c = false
theorem Ord.flip {γ : Type} {lt : γ → γ → Bool} (h : Ord lt) : Ord (fun a b => lt b a) := ⟨fun a b => h.asy b a, fun a b c x y => h.tr c b a y x⟩
theorem fmin_is {γ : Type} {lt : γ → γ → Bool} (o : Ord lt) : ∀ (l : List γ) (a : γ), fmin lt l a ∈ a :: l ∧ ∀ x ∈ a :: l, lt x (fmin lt l a) = false
  | [], a => ⟨List.mem_cons_self, fun x hx => by
    rw [List.mem_singleton.mp hx]
    show lt a a = false
    cases q : lt a a with
    | false => rfl
    | true => have := o.asy a a q; rw [q] at this; cases this⟩
  | b :: l, a => by
    have e : fmin lt (b :: l) a = fmin lt l (if lt b a = true then b else a) := rfl
    rw [e]
    have ih := fmin_is o l (if lt b a = true then b else a)
    generalize fmin lt l (if lt b a = true then b else a) = m at *
    have h0 := ih.2 _ List.mem_cons_self
    refine ⟨?_, fun x hx => ?_⟩
    · rcases List.mem_cons.mp ih.1 with h | h
      · rw [h]
        split
        · exact List.mem_cons_of_mem _ List.mem_cons_self
        · exact List.mem_cons_self
      · exact List.mem_cons_of_mem _ (List.mem_cons_of_mem _ h)
    · rcases List.mem_cons.mp hx with h | h
      · subst h
        cases q : lt b x with
        | false => rw [q, if_neg (by simp)] at h0; exact h0
        | true => rw [q, if_pos rfl] at h0; exact o.tr _ _ _ (o.asy _ _ q) h0
      · rcases List.mem_cons.mp h with h | h
        · subst h
          cases q : lt x a with
          | true => rw [q, if_pos rfl] at h0; exact h0
          | false => rw [q, if_neg (by simp)] at h0; exact o.tr _ _ _ q h0
        · exact ih.2 x (List.mem_cons_of_mem _ h)
theorem fmax_is {γ : Type} {lt : γ → γ → Bool} (o : Ord lt) (l : List γ) (a : γ) : fmax lt l a ∈ a :: l ∧ ∀ x ∈ a :: l, lt (fmax lt l a) x = false := fmin_is o.flip l a
theorem minF_map {γ : Type} (e : γ → D) (lt : γ → γ → Bool) (h : ∀ x y, ltD (e x) (e y) = lt x y) : ∀ (l : List γ) (a : γ), minF (e a) (l.map e) = e (fmin lt l a)
  | [], a => rfl
  | b :: l, a => by
    have e1 : minF (e a) ((b :: l).map e) = minF (if ltD (e b) (e a) = true then e b else e a) (l.map e) := rfl
    have e2 : fmin lt (b :: l) a = fmin lt l (if lt b a = true then b else a) := rfl
    rw [e1, e2, h, show (if lt b a = true then e b else e a) = e (if lt b a = true then b else a) by split <;> rfl]
    exact minF_map e lt h l _
theorem maxF_map {γ : Type} (e : γ → D) (lt : γ → γ → Bool) (h : ∀ x y, ltD (e x) (e y) = lt x y) : ∀ (l : List γ) (a : γ), maxF (e a) (l.map e) = e (fmax lt l a)
  | [], a => rfl
  | b :: l, a => by
    have e1 : maxF (e a) ((b :: l).map e) = maxF (if ltD (e a) (e b) = true then e b else e a) (l.map e) := rfl
    have e2 : fmax lt (b :: l) a = fmax lt l (if lt a b = true then b else a) := rfl
    rw [e1, e2, h, show (if lt a b = true then e b else e a) = e (if lt a b = true then b else a) by split <;> rfl]
    exact maxF_map e lt h l _
/-! rows of whole numbers, in their order -/
def lexB : List Int → List Int → Bool
  | [], [] => false
  | [], _ :: _ => true
  | _ :: _, [] => false
  | a :: l, b :: m => if a = b then lexB l m else decide (a < b)
theorem lexB_ord : Ord lexB where
  asy := by
    intro a
    induction a with
    | nil => intro b; cases b <;> simp [lexB]
    | cons x a ih =>
      intro b
      cases b with
      | nil => simp [lexB]
      | cons y b =>
        unfold lexB
        by_cases h : x = y
        · subst h; rw [if_pos rfl, if_pos rfl]; exact ih b
        · rw [if_neg h, if_neg (fun z => h z.symm)]
          simp
          omega
  tr := by
    intro a
    induction a with
    | nil => intro b c; cases b <;> cases c <;> simp [lexB]
    | cons x a ih =>
      intro b c
      cases b with
      | nil => cases c <;> simp [lexB]
      | cons y b =>
        cases c with
        | nil => simp [lexB]
        | cons z c =>
          unfold lexB
          by_cases h : x = y
          · subst h
            rw [if_pos rfl]
            by_cases h2 : x = z
            · subst h2; rw [if_pos rfl, if_pos rfl]; exact ih b c
            · rw [if_neg h2, if_neg h2]; exact fun _ h => h
          · rw [if_neg h]
            by_cases h2 : y = z
            · subst h2; rw [if_pos rfl, if_neg h]; exact fun h _ => h
            · rw [if_neg h2]
              by_cases h3 : x = z
              · subst h3
                simp
                omega
              · rw [if_neg h3]
                simp
                omega
abbrev tI (l : List Int) : D := .tup (l.map .int)
theorem ltD_tI : ∀ (a b : List Int), ltD (tI a) (tI b) = lexB a b
  | [], [] => by show ltD (.tup []) (.tup []) = _; rw [ltD_tnil]; rfl
  | [], b :: m => by show ltD (.tup []) (.tup _) = _; rw [ltD_tnil]; rfl
  | a :: l, [] => by show ltD (.tup (.int a :: l.map .int)) (.tup []) = _; rw [ltD_tcn]; rfl
  | a :: l, b :: m => by
    show ltD (.tup (.int a :: l.map .int)) (.tup (.int b :: m.map .int)) = _
    rw [ltD_tint, lexB]
    split
    · exact ltD_tI l m
    · rfl
theorem ltD_pair {a b c d : Int} : ltD (.tup [.int a, .int b]) (.tup [.int c, .int d]) = decide (a < c ∨ (a = c ∧ b < d)) := by
  rw [ltD_tint, ltD_tint]
  by_cases h : a = c
  · subst h
    rw [if_pos rfl]
    by_cases h2 : b = d
    · subst h2; rw [if_pos rfl, ltD_tnil]; simp
    · rw [if_neg h2]; simp
  · rw [if_neg h]; simp [h]
def ltP (p q : Int × Int) : Bool := decide (p.1 < q.1 ∨ (p.1 = q.1 ∧ p.2 < q.2))
theorem ltP_ord : Ord ltP := ⟨fun a b h => by unfold ltP at *; simp at *; omega, fun a b c h g => by unfold ltP at *; simp at *; omega⟩
abbrev pr (p : Int × Int) : D := .tup [.int p.1, .int p.2]
theorem pr_ok {l : List (Int × Int)} : ∀ x ∈ l.map pr, okN 9 x = true ∧ x.has (.tup [.int, .int]) = true := fun x hx => by
  obtain ⟨i, _, rfl⟩ := List.mem_map.mp hx
  exact ⟨by simp [okN, okNL], by simp [D.has, hasL]⟩
theorem min_pairs {l : List (Int × Int)} (h : l ≠ []) : ∃ m, minO [.lst (l.map pr)] = some (pr m) ∧ m ∈ l ∧ ∀ x ∈ l, m.1 < x.1 ∨ (m.1 = x.1 ∧ m.2 ≤ x.2) := by
  cases l with
  | nil => exact absurd rfl h
  | cons a l =>
    obtain ⟨h1, h2⟩ := fmin_is ltP_ord l a
    refine ⟨fmin ltP l a, ?_, h1, fun x hx => ?_⟩
    · rw [List.map_cons, minO_sh (.tup [.int, .int]) (pr_ok (l := a :: l)), minF_map pr ltP (fun x y => ltD_pair)]
    · have := h2 x hx
      revert this
      generalize fmin ltP l a = m
      intro this
      unfold ltP at this
      simp at this
      omega
theorem max_pairs {l : List (Int × Int)} (h : l ≠ []) : ∃ m, maxO [.lst (l.map pr)] = some (pr m) ∧ m ∈ l ∧ ∀ x ∈ l, x.1 < m.1 ∨ (x.1 = m.1 ∧ x.2 ≤ m.2) := by
  cases l with
  | nil => exact absurd rfl h
  | cons a l =>
    obtain ⟨h1, h2⟩ := fmax_is ltP_ord l a
    refine ⟨fmax ltP l a, ?_, h1, fun x hx => ?_⟩
    · rw [List.map_cons, maxO_sh (.tup [.int, .int]) (pr_ok (l := a :: l)), maxF_map pr ltP (fun x y => ltD_pair)]
    · have := h2 x hx
      revert this
      generalize fmax ltP l a = m
      intro this
      unfold ltP at this
      simp at this
      omega
/-- the place of a whole number -/
theorem index_ints {l : List Int} {j : Nat} (hj : j < l.length) (h : ∀ i, i < j → l[i]! ≠ l[j]!) : indexO (.lst (l.map D.int)) [.int l[j]!] = some (.int (j : Int)) := by
  have ok : eqOk (.lst (l.map D.int)) (.int l[j]!) = true := okN_eq (n := 9) (by rw [okN]; exact okN_ints l 8) (by simp [okN]) (by omega)
  have hf : (l.map D.int).findIdx? (fun y => eqB y (.int l[j]!)) = some j := by
    rw [List.findIdx?_eq_some_iff_getElem]
    refine ⟨by rw [List.length_map]; exact hj, ?_, fun i hi => ?_⟩
    · rw [List.getElem_map, getElem!_pos l j hj, eqB_ii]; simp
    · have := h i hi
      rw [getElem!_pos l i (by omega)] at this
      rw [List.getElem_map, eqB_ii]
      simpa using this
  show (if eqOk (.lst (l.map D.int)) (.int l[j]!) = true then _ else none) = _
  rw [if_pos ok, hf]
  rfl
/-! rows of pairs -/
abbrev PP := Int × Int
abbrev rowsD (l : List PP) : List D := l.map pr
theorem rows_app (l : List PP) (p : PP) : rowsD (l ++ [p]) = rowsD l ++ [.tup [.int p.1, .int p.2]] := by rw [rowsD, List.map_append]; rfl
theorem atI_rows {rs : List PP} {j : Int} (h : 0 ≤ j ∧ j < rs.length) : atI (rowsD rs) j = some (.tup [.int rs[j.toNat]!.1, .int rs[j.toNat]!.2]) := by
  rw [atI_at (by rw [List.length_map]; omega), List.getElem?_map, List.getElem?_eq_getElem (by omega), getElem!_pos rs j.toNat (by omega)]
  rfl
theorem drop_rows {rs : List PP} : (rowsD rs).drop 1 = rowsD (rs.drop 1) := by rw [rowsD, rowsD, List.map_drop]
theorem zip_tail {rs : List PP} : rs.zip (rs.drop 1) = (List.range (rs.length - 1)).map fun k => (rs[k]!, rs[k + 1]!) := by
  refine List.ext_getElem (by simp) fun i h1 h2 => ?_
  rw [List.length_map, List.length_range] at h2
  rw [List.getElem_zip, List.getElem_map, List.getElem_range, getElem!_pos rs i (by omega), getElem!_pos rs (i + 1) (by omega), List.getElem_drop]
  simp only [Nat.add_comm 1 i]
theorem zip_rows {rs : List PP} : zipL (rowsD rs) ((rowsD rs).drop 1) = (List.range (rs.length - 1)).map fun k : Nat => D.tup [.tup [.int rs[k]!.1, .int rs[k]!.2], .tup [.int rs[k + 1]!.1, .int rs[k + 1]!.2]] := by
  rw [drop_rows, zipL_map, zip_tail, List.map_map]
  rfl
theorem get_lt {α : Type} [Inhabited α] {l : List α} {a : α} {i : Nat} (h : i < l.length) : (l ++ [a])[i]! = l[i]! := by
  rw [getElem!_pos (l ++ [a]) i (by rw [List.length_append]; omega), getElem!_pos l i h, List.getElem_append_left]
theorem get_last {α : Type} [Inhabited α] {l : List α} {a : α} : (l ++ [a])[l.length]! = a := by
  rw [getElem!_pos (l ++ [a]) l.length (by simp), List.getElem_concat_length rfl]
/-- the first that holds, kept -/
def keepS {γ δ : Type} (c : γ → Bool) (y : γ → δ) (o : Option δ) (a : γ) : Option δ := match o with
  | some v => some v
  | none => if c a = true then some (y a) else none
theorem keep_run {γ δ : Type} (c : γ → Bool) (y : γ → δ) : ∀ l : List γ, l.foldl (keepS c y) none = (l.find? c).map y := by
  have h1 : ∀ (l : List γ) (v : δ), l.foldl (keepS c y) (some v) = some v := by
    intro l
    induction l with
    | nil => exact fun _ => rfl
    | cons a l ih => intro v; rw [List.foldl_cons]; exact ih v
  intro l
  induction l with
  | nil => rfl
  | cons a l ih =>
    rw [List.foldl_cons, List.find?_cons]
    unfold keepS
    simp only
    cases q : c a with
    | true => simp only [if_true]; exact h1 l (y a)
    | false => simp only [Bool.false_eq_true, if_false]; exact ih
end DR
set_option Elab.async false
set_option linter.all false
set_option maxRecDepth 100000
set_option maxHeartbeats 4000000
namespace L13
open PySem L2 DL
def toldL : List (Nat × Str) := [(1, "size"), (2, "plan"), (3, "no such"), (4, "no room"), (5, "no way"), (6, "short"), (7, "text"), (8, "deed")]
theorem told_1 {p : List D} {s : DS} : toldK toldL (.ex 1 p s) = .ok (.str "size") s := rfl
theorem told_2 {p : List D} {s : DS} : toldK toldL (.ex 2 p s) = .ok (.str "plan") s := rfl
theorem told_3 {p : List D} {s : DS} : toldK toldL (.ex 3 p s) = .ok (.str "no such") s := rfl
theorem told_4 {p : List D} {s : DS} : toldK toldL (.ex 4 p s) = .ok (.str "no room") s := rfl
theorem told_5 {p : List D} {s : DS} : toldK toldL (.ex 5 p s) = .ok (.str "no way") s := rfl
theorem told_6 {p : List D} {s : DS} : toldK toldL (.ex 6 p s) = .ok (.str "short") s := rfl
theorem told_7 {p : List D} {s : DS} : toldK toldL (.ex 7 p s) = .ok (.str "text") s := rfl
theorem told_8 {p : List D} {s : DS} : toldK toldL (.ex 8 p s) = .ok (.str "deed") s := rfl
theorem told_ok {d : D} {s : DS} : toldK toldL (.ok d s) = .ok d s := rfl
noncomputable def B_Mill_init : DL.Env → DS → F := seqB (ifB (orT (tstD (bopD opLt (bltD min2O (consA (vB 2) (consA (vB 3) (nilA)))) (cD (.int 1)))) (tstD (bopD opLt (bltD min2O (consA (vB 1) (consA (vB 4) (nilA)))) (cD (.int 0))))) (raiseA 2 (consA (cD (.str "no mill")) (nilA))) (nextB)) (seqB (fldB 1 0 (vD 1) (plV 0)) (seqB (fldB 1 1 (vD 2) (plV 0)) (seqB (fldB 1 2 (vD 3) (plV 0)) (fldB 1 3 (vD 4) (plV 0)))))
noncomputable def m_Mill_init : List D → DS → R D := inD 1 5 B_Mill_init
noncomputable def B_Mill_filled : DL.Env → DS → F := retB (bopD opMul (bltD max2O (consA (cD (.int 0)) (consA (bopD opSub (vB 1) (fldD 1 0 (vB 0))) (nilA)))) (fldD 1 1 (vB 0)))
noncomputable def m_Mill_filled : List D → DS → R D := fnD 2 B_Mill_filled
noncomputable def B_Mill_key : DL.Env → DS → F := retB (tupD (consA (fldD 1 0 (vB 0)) (consA (fldD 1 1 (vB 0)) (consA (fldD 1 2 (vB 0)) (consA (fldD 1 3 (vB 0)) (nilA))))))
noncomputable def m_Mill_key : List D → DS → R D := fnD 1 B_Mill_key
noncomputable def B_Tide_init : DL.Env → DS → F := seqB (ifB (orT (tstD (bopD opLt (vB 2) (cD (.int 60)))) (orT (tstD (bopD opLt (vB 5) (cD (.int 2)))) (orT (notT (tstD (chD opLe opLe (cD (.int 0)) (vB 4) (vB 3)))) (tstD (bopD opLt (vB 1) (cD (.int 0))))))) (raiseA 2 (consA (cD (.str "no tides")) (nilA))) (nextB)) (seqB (fldB 0 0 (vD 1) (plV 0)) (seqB (fldB 0 1 (vD 2) (plV 0)) (seqB (fldB 0 2 (vD 3) (plV 0)) (seqB (fldB 0 3 (vD 4) (plV 0)) (fldB 0 4 (vD 5) (plV 0))))))
noncomputable def m_Tide_init : List D → DS → R D := inD 0 6 B_Tide_init
noncomputable def B_Tide_high : DL.Env → DS → F := seqB (ifB (tstD (bopD opLt (vB 1) (cD (.int 0)))) (raiseA 1 (consA (cD (.str "no tide")) (nilA))) (nextB)) (retB (bopD opAdd (fldD 0 0 (vB 0)) (bopD opMul (vB 1) (fldD 0 1 (vB 0)))))
noncomputable def m_Tide_high : List D → DS → R D := fnD 2 B_Tide_high
noncomputable def B_Tide_next_high : DL.Env → DS → F := seqB (setB 2 (bltD max2O (consA (cD (.int 0)) (consA (bopD opSub (cD (.int 0)) (bopD opDiv (bopD opSub (fldD 0 0 (vB 0)) (vB 1)) (fldD 0 1 (vB 0)))) (nilA))))) (retB (tupD (consA (vD 2) (consA (methD 0 (gateD 2 m_Tide_high) (vD 0) (consA (vD 2) (nilA))) (nilA)))))
noncomputable def m_Tide_next_high : List D → DS → R D := fnD 3 B_Tide_next_high
noncomputable def L_Tide_on_day_3 : DL.Env → DS → F := seqB (mtB isLst (plV 4) (consA (bopD opSub (vB 3) (bopD opMul (cD (.int 1440)) (vB 1))) (nilA)) appU) (seqB (augB 2 opAug (cD (.int 1))) (setB 3 (methD 0 (gateD 2 m_Tide_high) (vD 0) (consA (vD 2) (nilA)))))
noncomputable def C_Tide_on_day_3 : DL.Env → DS → R Bool := tstD (bopD opLt (vB 3) (bopD opMul (cD (.int 1440)) (bopD opAdd (vB 1) (cD (.int 1)))))
abbrev E_Tide_on_day_3 («self» : Sl) («day» : Sl) («number» : Sl) («minute» : Sl) («found» : Sl) : DL.Env := [«self», «day», «number», «minute», «found»]
noncomputable def S_Tide_on_day_3 : DL.Env → DS → F := whB (whN C_Tide_on_day_3 L_Tide_on_day_3) C_Tide_on_day_3 L_Tide_on_day_3
noncomputable def B_Tide_on_day : DL.Env → DS → F := seqB (ifB (tstD (bopD opLt (vB 1) (cD (.int 0)))) (raiseA 1 (consA (cD (.str "no day")) (nilA))) (nextB)) (seqB (asgB (gT (gsC (gN 2) (gsC (gN 3) (gsN)))) (methD 0 (gateD 2 m_Tide_next_high) (vD 0) (consA (bopD opMul (cD (.int 1440)) (vB 1)) (nilA)))) (seqB (setOB 4 (lstD (nilA))) (seqB (S_Tide_on_day_3) (retB (bltD tupleO (consA (vB 4) (nilA)))))))
noncomputable def m_Tide_on_day : List D → DS → R D := fnD 5 B_Tide_on_day
noncomputable def B_Tide_best_days : DL.Env → DS → F := seqB (ifB (orT (tstD (bopD opLt (vB 1) (cD (.int 1)))) (notT (tstD (ch3D opLe opLt opLe (cD (.int 0)) (vB 2) (vB 3) (cD (.int 1440)))))) (raiseA 1 (consA (cD (.str "no days")) (nilA))) (nextB)) (seqB (setB 4 (calmD (lcD (rngD rng1 (consA (vD 1) (nilA))) (gN 5) (yesT) (gSumD (iterD tupO (methD 0 (gateD 2 m_Tide_on_day) (vD 0) (consA (vD 5) (nilA)))) (gN 6) (tstD (chD opLe opLt (vB 2) (vB 6) (vB 3))) (cD (.int 1)) [6]) [5]))) (retB (bltD tupleO (consA (calmD (lcD (rngD enumO (consA (vD 4) (nilA))) (gT (gsC (gN 5) (gsC (gN 7) (gsN)))) (tstD (bopD opEq (vB 7) (bltD maxO (consA (vB 4) (nilA))))) (vD 5) [5, 7])) (nilA)))))
noncomputable def m_Tide_best_days : List D → DS → R D := fnD 8 B_Tide_best_days
noncomputable def B_Tide_height : DL.Env → DS → F := seqB (setB 2 (bopD opMod (bopD opDiv (methD 0 (gateD 2 m_Tide_high) (vD 0) (consA (vD 1) (nilA))) (cD (.int 1440))) (fldD 0 4 (vB 0)))) (seqB (setB 3 (bltD min2O (consA (vB 2) (consA (bopD opSub (fldD 0 4 (vB 0)) (vB 2)) (nilA))))) (retB (bopD opSub (fldD 0 2 (vB 0)) (bopD opDiv (bopD opMul (bopD opMul (bopD opSub (fldD 0 2 (vB 0)) (fldD 0 3 (vB 0))) (cD (.int 2))) (vB 3)) (fldD 0 4 (vB 0))))))
noncomputable def m_Tide_height : List D → DS → R D := fnD 4 B_Tide_height
noncomputable def B_Tide_key : DL.Env → DS → F := retB (tupD (consA (fldD 0 0 (vB 0)) (consA (fldD 0 1 (vB 0)) (consA (fldD 0 2 (vB 0)) (consA (fldD 0 3 (vB 0)) (consA (fldD 0 4 (vB 0)) (nilA)))))))
noncomputable def m_Tide_key : List D → DS → R D := fnD 1 B_Tide_key
noncomputable def B_Tide_level : DL.Env → DS → F := seqB (asgB (gT (gsC (gN 2) (gsC (gN 3) (gsN)))) (methD 0 (gateD 2 m_Tide_next_high) (vD 0) (consA (vD 1) (nilA)))) (seqB (setB 4 (bopD opDiv (fldD 0 1 (vB 0)) (cD (.int 2)))) (seqB (setB 5 (bopD opSub (vB 1) (bopD opSub (vB 3) (fldD 0 1 (vB 0))))) (seqB (ifB (andT (tstD (bopD opGt (vB 2) (cD (.int 0)))) (tstD (bopD opLe (vB 5) (vB 4)))) (retB (bopD opDiv (bopD opMul (methD 0 (gateD 2 m_Tide_height) (vD 0) (consA (bopD opSub (vB 2) (cD (.int 1))) (nilA))) (bopD opSub (vB 4) (vB 5))) (vB 4))) (nextB)) (retB (bopD opDiv (bopD opMul (methD 0 (gateD 2 m_Tide_height) (vD 0) (consA (vD 2) (nilA))) (bltD max2O (consA (cD (.int 0)) (consA (bopD opSub (vB 4) (bopD opSub (vB 3) (vB 1))) (nilA))))) (vB 4))))))
noncomputable def m_Tide_level : List D → DS → R D := fnD 6 B_Tide_level
noncomputable def B_law_height : DL.Env → DS → F := seqB (asgB (gT (gsC (gN 2) (gsC (gN 3) (gsC (gN 4) (gsC (gN 5) (gsC (gN 6) (gsN))))))) (vD 0)) (seqB (setB 7 (bopD opMod (bopD opDiv (bopD opAdd (vB 2) (bopD opMul (vB 1) (vB 3))) (cD (.int 1440))) (vB 6))) (retB (bopD opSub (vB 4) (bopD opDiv (bopD opMul (bopD opMul (bopD opSub (vB 4) (vB 5)) (cD (.int 2))) (bltD min2O (consA (vB 7) (consA (bopD opSub (vB 6) (vB 7)) (nilA))))) (vB 6)))))
noncomputable def m_law_height : List D → DS → R D := fnD 8 B_law_height
noncomputable def B_law_level : DL.Env → DS → F := seqB (asgB (gT (gsC (gN 2) (gsC (gN 3) (gsN)))) (sliceD (vB 0) (partN) (partS (cD (.int 2))))) (seqB (parB [4, 5] (consA (bopD opDiv (vB 3) (cD (.int 2))) (consA (cD (.int 0)) (nilA)))) (seqB (setB 6 (calmD (lcD (rngD rng1 (consA (cD (.int 60)) (nilA))) (gN 7) (tstD (bopD opLe (bopD opAdd (vB 2) (bopD opMul (vB 7) (vB 3))) (vB 1))) (vD 7) [7]))) (seqB (ifB (tstD (bopD opNe (vB 6) (lstD (nilA)))) (seqB (setB 8 (bopD opIx (vB 6) (bopD opSub (bltD lenO (consA (vB 6) (nilA))) (cD (.int 1))))) (seqB (setB 9 (bopD opSub (bopD opSub (vB 1) (vB 2)) (bopD opMul (vB 8) (vB 3)))) (seqB (ifB (tstD (bopD opEq (vB 9) (cD (.int 0)))) (retB (callD (gateD 2 m_law_height) (consA (vD 0) (consA (vD 8) (nilA))))) (nextB)) (seqB (ifB (tstD (bopD opLe (vB 9) (vB 4))) (retB (bopD opDiv (bopD opMul (callD (gateD 2 m_law_height) (consA (vD 0) (consA (vD 8) (nilA)))) (bopD opSub (vB 4) (vB 9))) (vB 4))) (nextB)) (setB 5 (bopD opAdd (vB 8) (cD (.int 1)))))))) (nextB)) (seqB (setB 10 (bopD opSub (bopD opAdd (vB 2) (bopD opMul (vB 5) (vB 3))) (vB 1))) (retB (bopD opDiv (bopD opMul (callD (gateD 2 m_law_height) (consA (vD 0) (consA (vD 5) (nilA)))) (bltD max2O (consA (cD (.int 0)) (consA (bopD opSub (vB 4) (vB 10)) (nilA))))) (vB 4)))))))
noncomputable def m_law_level : List D → DS → R D := fnD 11 B_law_level
noncomputable def B_Mill_can_run : DL.Env → DS → F := seqB (setB 5 (bopD opSub (methD 1 (gateD 2 m_Mill_filled) (vD 0) (consA (methD 0 (gateD 2 m_Tide_height) (vD 1) (consA (vD 2) (nilA))) (nilA))) (bopD opMul (vB 4) (fldD 1 2 (vB 0))))) (retB (bopD opGe (bopD opSub (bopD opAdd (fldD 1 0 (vB 0)) (bopD opDiv (vB 5) (fldD 1 1 (vB 0)))) (methD 0 (gateD 2 m_Tide_level) (vD 1) (consA (vD 3) (nilA)))) (fldD 1 3 (vB 0))))
noncomputable def m_Mill_can_run : List D → DS → R D := fnD 6 B_Mill_can_run
noncomputable def L_Mill_hours_2 : DL.Env → DS → F := wipB [true, true, true, true, true, false, false] (seqB (setB 6 (bopD opAdd (methD 0 (gateD 2 m_Tide_high) (vD 1) (consA (vD 2) (nilA))) (bopD opMul (cD (.int 60)) (vB 5)))) (ifB (andT (tstD (bopD opLt (vB 4) (vB 3))) (tstD (methD 1 (gateD 5 m_Mill_can_run) (vD 0) (consA (vD 1) (consA (vD 2) (consA (vD 6) (consA (vD 4) (nilA)))))))) (augB 4 opAug (cD (.int 1))) (nextB)))
abbrev E_Mill_hours_2 («self» : Sl) («tide» : Sl) («number» : Sl) («most» : Sl) («found» : Sl) : DL.Env := [«self», «tide», «number», «most», «found», .no, .no]
noncomputable def S_Mill_hours_2 : DL.Env → DS → F := wipB [true, true, true, true, true, false, false] (forW [true, true, true, true, true, false, false] (rngD rng1 (consA (bopD opDiv (fldD 0 1 (vB 1)) (cD (.int 60))) (nilA))) (gN 5) L_Mill_hours_2)
noncomputable def B_Mill_hours : DL.Env → DS → F := seqB (setB 3 (bopD opDiv (methD 1 (gateD 2 m_Mill_filled) (vD 0) (consA (methD 0 (gateD 2 m_Tide_height) (vD 1) (consA (vD 2) (nilA))) (nilA))) (fldD 1 2 (vB 0)))) (seqB (setB 4 (cD (.int 0))) (seqB (S_Mill_hours_2) (retB (vD 4))))
noncomputable def m_Mill_hours : List D → DS → R D := fnD 7 B_Mill_hours
noncomputable def B_Mill_worst : DL.Env → DS → F := seqB (ifB (tstD (bopD opLt (vB 2) (cD (.int 1)))) (raiseA 5 (consA (cD (.str "none")) (nilA))) (nextB)) (seqB (setB 3 (calmD (lcD (rngD rng1 (consA (vD 2) (nilA))) (gN 4) (yesT) (tupD (consA (methD 1 (gateD 3 m_Mill_hours) (vD 0) (consA (vD 1) (consA (vD 4) (nilA)))) (consA (vD 4) (nilA)))) [4]))) (retB (bopD opIx (bltD minO (consA (vB 3) (nilA))) (cD (.int 1)))))
noncomputable def m_Mill_worst : List D → DS → R D := fnD 5 B_Mill_worst
noncomputable def B_Mill_year : DL.Env → DS → F := retB (gSumD (rngD rng1 (consA (vD 2) (nilA))) (gN 3) (yesT) (methD 1 (gateD 3 m_Mill_hours) (vD 0) (consA (vD 1) (consA (vD 3) (nilA)))) [3])
noncomputable def m_Mill_year : List D → DS → R D := fnD 4 B_Mill_year
noncomputable def B_later_each_day : DL.Env → DS → F := seqB (ifB (tstD (bopD opLt (vB 0) (cD (.int 1)))) (raiseA 1 (consA (cD (.str "no tides")) (nilA))) (nextB)) (retB (bopD opSub (bopD opMul (cD (.int 2)) (vB 0)) (cD (.int 1440))))
noncomputable def m_later_each_day : List D → DS → R D := fnD 1 B_later_each_day
noncomputable def L_read_height_1 : DL.Env → DS → F := wipB [false, true, true, false, false, false, false] (ifB (tstD (chD opLe opLe (vB 3) (vB 1) (vB 5))) (retB (bopD opAdd (vB 4) (bopD opDiv (bopD opMul (bopD opSub (vB 6) (vB 4)) (bopD opSub (vB 1) (vB 3))) (bopD opSub (vB 5) (vB 3))))) (nextB))
abbrev E_read_height_1 («place» : Sl) : DL.Env := [.no, «place», .no, .no, .no, .no, .no]
noncomputable def S_read_height_1 : DL.Env → DS → F := wipB [false, true, true, false, false, false, false] (forW [false, true, true, false, false, false, false] (rngD zipO (consA (vD 0) (consA (sliceD (vB 0) (partS (cD (.int 1))) (partN)) (nilA)))) (gT (gsC (gT (gsC (gN 3) (gsC (gN 4) (gsN)))) (gsC (gT (gsC (gN 5) (gsC (gN 6) (gsN)))) (gsN)))) L_read_height_1)
noncomputable def B_read_height : DL.Env → DS → F := seqB (ifB (orT (tstD (bopD opLt (bltD lenO (consA (vB 0) (nilA))) (cD (.int 2)))) (tstD (gAnyD true (rngD rng2 (consA (cD (.int 1)) (consA (bltD lenO (consA (vB 0) (nilA))) (nilA)))) (gN 2) (yesT) (bopD opLe (bopD opIx (bopD opIx (vB 0) (vB 2)) (cD (.int 0))) (bopD opIx (bopD opIx (vB 0) (bopD opSub (vB 2) (cD (.int 1)))) (cD (.int 0)))) [2]))) (raiseA 2 (consA (cD (.str "no staff")) (nilA))) (nextB)) (seqB (S_read_height_1) (raiseA 5 (consA (cD (.str "past the staff")) (nilA))))
noncomputable def m_read_height : List D → DS → R D := fnD 7 B_read_height
noncomputable def B_twelfths : DL.Env → DS → F := seqB (ifB (orT (tstD (bopD opLt (vB 0) (cD (.int 0)))) (notT (tstD (chD opLe opLe (cD (.int 0)) (vB 1) (cD (.int 6)))))) (raiseA 1 (consA (cD (.str "no hour")) (nilA))) (nextB)) (retB (bopD opDiv (bopD opMul (vB 0) (bopD opIx (tupD (consA (cD (.int 0)) (consA (cD (.int 1)) (consA (cD (.int 3)) (consA (cD (.int 6)) (consA (cD (.int 9)) (consA (cD (.int 11)) (consA (cD (.int 12)) (nilA))))))))) (vB 1))) (cD (.int 12))))
noncomputable def m_twelfths : List D → DS → R D := fnD 2 B_twelfths
noncomputable def B_law_cases1 : DL.Env → DS → F := seqB (ifB (tstD (bopD opNe (toldD toldL (calmN 0 5 (callD (gateD 5 m_Tide_init) (consA (cD (.int 0)) (consA (cD (.int 59)) (consA (cD (.int 1)) (consA (cD (.int 1)) (consA (cD (.int 2)) (nilA))))))))) (cD (.str "plan")))) (retB (cD (.bl false))) (nextB)) (seqB (ifB (tstD (bopD opNe (toldD toldL (calmN 1 4 (callD (gateD 4 m_Mill_init) (consA (cD (.int 1)) (consA (cD (.int 0)) (consA (cD (.int 1)) (consA (cD (.int 1)) (nilA)))))))) (cD (.str "plan")))) (retB (cD (.bl false))) (nextB)) (seqB (ifB (tstD (bopD opNe (toldD toldL (callD (gateD 1 m_later_each_day) (consA (cD (.int 0)) (nilA)))) (cD (.str "size")))) (retB (cD (.bl false))) (nextB)) (seqB (ifB (tstD (bopD opNe (toldD toldL (callD (gateD 2 m_twelfths) (consA (cD (.int 1)) (consA (cD (.int 7)) (nilA))))) (cD (.str "size")))) (retB (cD (.bl false))) (nextB)) (seqB (ifB (tstD (bopD opNe (toldD toldL (callD (gateD 2 m_read_height) (consA (lstD (consA (tupD (consA (cD (.int 1)) (consA (cD (.int 1)) (nilA)))) (nilA))) (consA (cD (.int 1)) (nilA))))) (cD (.str "plan")))) (retB (cD (.bl false))) (nextB)) (retB (cD (.bl true)))))))
noncomputable def m_law_cases1 : List D → DS → R D := fnD 0 B_law_cases1
noncomputable abbrev B_law_roll := DR.B_law_roll
noncomputable abbrev m_law_roll := DR.m_law_roll
noncomputable def S_law_rest2_0 : DL.Env → DS → F := setOB 3 (lstD (consA (tupD (consA (callD (gateD 2 m_law_roll) (consA (vD 0) (consA (cD (.int 5)) (nilA)))) (consA (callD (gateD 2 m_law_roll) (consA (vD 0) (consA (cD (.int 90)) (nilA)))) (nilA)))) (nilA)))
noncomputable def S_law_rest2_1x_0 : DL.Env → DS → F := mtB isLst (plV 3) (consA (tupD (consA (bopD opAdd (bopD opAdd (bopD opIx (bopD opIx (vB 3) (vB 4)) (cD (.int 0))) (cD (.int 1))) (callD (gateD 2 m_law_roll) (consA (vD 0) (consA (cD (.int 9)) (nilA))))) (consA (callD (gateD 2 m_law_roll) (consA (vD 0) (consA (cD (.int 90)) (nilA)))) (nilA)))) (nilA)) appU
noncomputable def L_law_rest2_1 : DL.Env → DS → F := wipB [true, true, true, true, false, false, false, false, false, false, false] (S_law_rest2_1x_0)
abbrev E_law_rest2_1 («dice» : Sl) («tide» : Sl) («mill» : Sl) («marks» : Sl) : DL.Env := [«dice», «tide», «mill», «marks», .no, .no, .no, .no, .no, .no, .no]
noncomputable def S_law_rest2_1 : DL.Env → DS → F := wipB [true, true, true, true, false, false, false, false, false, false, false] (forW [true, true, true, true, false, false, false, false, false, false, false] (rngD rng1 (consA (bopD opAdd (cD (.int 1)) (callD (gateD 2 m_law_roll) (consA (vD 0) (consA (cD (.int 3)) (nilA))))) (nilA))) (gN 4) L_law_rest2_1)
noncomputable def S_law_rest2_2 : DL.Env → DS → F := setB 5 (callD (gateD 2 m_law_roll) (consA (vD 0) (consA (cD (.int 40)) (nilA))))
noncomputable def S_law_rest2_3 : DL.Env → DS → F := setB 6 (cD (.str "no way"))
noncomputable def S_law_rest2_4x_0 : DL.Env → DS → F := asgB (gT (gsC (gN 7) (gsC (gN 8) (gsN)))) (bopD opIx (vB 3) (bopD opSub (vB 4) (cD (.int 1))))
noncomputable def S_law_rest2_4x_1 : DL.Env → DS → F := asgB (gT (gsC (gN 9) (gsC (gN 10) (gsN)))) (bopD opIx (vB 3) (vB 4))
noncomputable def S_law_rest2_4x_2 : DL.Env → DS → F := setB 6 (ifD (andT (tstD (chD opLe opLe (vB 7) (vB 5) (vB 9))) (tstD (bopD opEq (vB 6) (cD (.str "no way"))))) (bopD opAdd (vB 8) (bopD opDiv (bopD opMul (bopD opSub (vB 10) (vB 8)) (bopD opSub (vB 5) (vB 7))) (bopD opSub (vB 9) (vB 7)))) (vD 6))
noncomputable def L_law_rest2_4 : DL.Env → DS → F := wipB [false, true, true, true, false, true, true, false, false, false, false] (seqB (S_law_rest2_4x_0) (seqB (S_law_rest2_4x_1) (S_law_rest2_4x_2)))
abbrev E_law_rest2_4 («tide» : Sl) («mill» : Sl) («marks» : Sl) («place» : Sl) («due» : Sl) : DL.Env := [.no, «tide», «mill», «marks», .no, «place», «due», .no, .no, .no, .no]
noncomputable def S_law_rest2_4 : DL.Env → DS → F := wipB [false, true, true, true, false, true, true, false, false, false, false] (forW [false, true, true, true, false, true, true, false, false, false, false] (rngD rng2 (consA (cD (.int 1)) (consA (bltD lenO (consA (vB 3) (nilA))) (nilA)))) (gN 4) L_law_rest2_4)
noncomputable def S_law_rest2_5a_0 : DL.Env → DS → F := retB (cD (.bl false))
noncomputable def S_law_rest2_5 : DL.Env → DS → F := frzB [3] (ifB (tstD (bopD opNe (toldD toldL (callD (gateD 2 m_read_height) (consA (vD 3) (consA (vD 5) (nilA))))) (vB 6))) (S_law_rest2_5a_0) (nextB))
noncomputable def S_law_rest2_6a_0 : DL.Env → DS → F := retB (cD (.bl false))
noncomputable def S_law_rest2_6 : DL.Env → DS → F := ifB (notT (tstD (callD (gateD 0 m_law_cases1) nilA))) (S_law_rest2_6a_0) (nextB)
noncomputable def S_law_rest2_7a_0 : DL.Env → DS → F := retB (cD (.bl false))
noncomputable def S_law_rest2_7 : DL.Env → DS → F := ifB (tstD (bopD opNe (toldD toldL (methD 0 (gateD 2 m_Tide_high) (vD 1) (consA (bopD opSub (cD (.int 0)) (cD (.int 1))) (nilA)))) (cD (.str "size")))) (S_law_rest2_7a_0) (nextB)
noncomputable def S_law_rest2_8a_0 : DL.Env → DS → F := retB (cD (.bl false))
noncomputable def S_law_rest2_8 : DL.Env → DS → F := ifB (tstD (bopD opNe (toldD toldL (methD 0 (gateD 2 m_Tide_on_day) (vD 1) (consA (bopD opSub (cD (.int 0)) (cD (.int 1))) (nilA)))) (cD (.str "size")))) (S_law_rest2_8a_0) (nextB)
noncomputable def S_law_rest2_9a_0 : DL.Env → DS → F := retB (cD (.bl false))
noncomputable def S_law_rest2_9 : DL.Env → DS → F := ifB (tstD (bopD opNe (toldD toldL (methD 0 (gateD 4 m_Tide_best_days) (vD 1) (consA (cD (.int 1)) (consA (cD (.int 5)) (consA (cD (.int 5)) (nilA)))))) (cD (.str "size")))) (S_law_rest2_9a_0) (nextB)
noncomputable def S_law_rest2_10a_0 : DL.Env → DS → F := retB (cD (.bl false))
noncomputable def S_law_rest2_10 : DL.Env → DS → F := ifB (tstD (bopD opNe (toldD toldL (methD 1 (gateD 3 m_Mill_worst) (vD 2) (consA (vD 1) (consA (cD (.int 0)) (nilA))))) (cD (.str "no way")))) (S_law_rest2_10a_0) (nextB)
noncomputable def S_law_rest2_11 : DL.Env → DS → F := retB (cD (.bl true))
noncomputable def B_law_rest2 : DL.Env → DS → F := seqB (S_law_rest2_0) (seqB (S_law_rest2_1) (seqB (S_law_rest2_2) (seqB (S_law_rest2_3) (seqB (S_law_rest2_4) (seqB (S_law_rest2_5) (seqB (S_law_rest2_6) (seqB (S_law_rest2_7) (seqB (S_law_rest2_8) (seqB (S_law_rest2_9) (seqB (S_law_rest2_10) (S_law_rest2_11)))))))))))
noncomputable def m_law_rest2 : List D → DS → R D := fnD 11 B_law_rest2
noncomputable def S_law_rest1_0x_0 : DL.Env → DS → F := parB [9, 10] (consA (bopD opMul (bltD max2O (consA (cD (.int 0)) (consA (bopD opSub (callD (gateD 2 m_law_height) (consA (vD 1) (consA (vD 7) (nilA)))) (bopD opIx (vB 3) (cD (.int 0)))) (nilA)))) (bopD opIx (vB 3) (cD (.int 1)))) (consA (cD (.int 0)) (nilA)))
noncomputable def S_law_rest1_0x_1x_0 : DL.Env → DS → F := setB 11 (bopD opSub (vB 9) (bopD opMul (vB 10) (bopD opIx (vB 3) (cD (.int 2)))))
noncomputable def S_law_rest1_0x_1x_1 : DL.Env → DS → F := setB 12 (bopD opAdd (bopD opAdd (bopD opIx (vB 1) (cD (.int 0))) (bopD opMul (vB 7) (bopD opIx (vB 1) (cD (.int 1))))) (bopD opMul (cD (.int 60)) (vB 8)))
noncomputable def S_law_rest1_0x_1x_2 : DL.Env → DS → F := setB 13 (bopD opSub (bopD opAdd (bopD opIx (vB 3) (cD (.int 0))) (bopD opDiv (vB 11) (bopD opIx (vB 3) (cD (.int 1))))) (callD (gateD 2 m_law_level) (consA (vD 1) (consA (vD 12) (nilA)))))
noncomputable def S_law_rest1_0x_1x_3a_0 : DL.Env → DS → F := retB (cD (.bl false))
noncomputable def S_law_rest1_0x_1x_3 : DL.Env → DS → F := ifB (andT (tstD (bopD opGe (vB 11) (bopD opIx (vB 3) (cD (.int 2))))) (tstD (bopD opNe (methD 1 (gateD 5 m_Mill_can_run) (vD 4) (consA (vD 2) (consA (vD 7) (consA (vD 12) (consA (vD 10) (nilA)))))) (bopD opGe (vB 13) (bopD opIx (vB 3) (cD (.int 3))))))) (S_law_rest1_0x_1x_3a_0) (nextB)
noncomputable def S_law_rest1_0x_1x_4 : DL.Env → DS → F := setB 10 (bopD opAdd (vB 10) (bltD intO (consA (andD (bopD opGe (vB 11) (bopD opIx (vB 3) (cD (.int 2)))) (bopD opGe (vB 13) (bopD opIx (vB 3) (cD (.int 3))))) (nilA))))
noncomputable def L_law_rest1_0x_1 : DL.Env → DS → F := wipB [true, true, true, true, true, true, true, true, false, true, true, false, false, false, false] (seqB (S_law_rest1_0x_1x_0) (seqB (S_law_rest1_0x_1x_1) (seqB (S_law_rest1_0x_1x_2) (seqB (S_law_rest1_0x_1x_3) (S_law_rest1_0x_1x_4)))))
abbrev E_law_rest1_0x_1 («dice» : Sl) («row» : Sl) («tide» : Sl) («mine» : Sl) («mill» : Sl) («high» : Sl) («runs» : Sl) («one» : Sl) («pond» : Sl) («done» : Sl) : DL.Env := [«dice», «row», «tide», «mine», «mill», «high», «runs», «one», .no, «pond», «done», .no, .no, .no, .no]
noncomputable def S_law_rest1_0x_1 : DL.Env → DS → F := wipB [true, true, true, true, true, true, true, true, false, true, true, false, false, false, false] (forW [true, true, true, true, true, true, true, true, false, true, true, false, false, false, false] (rngD rng1 (consA (bopD opDiv (bopD opIx (vB 1) (cD (.int 1))) (cD (.int 60))) (nilA))) (gN 8) L_law_rest1_0x_1)
noncomputable def S_law_rest1_0x_2 : DL.Env → DS → F := mtB isLst (plV 6) (consA (vD 10) (nilA)) appU
noncomputable def S_law_rest1_0x_3a_0 : DL.Env → DS → F := retB (cD (.bl false))
noncomputable def S_law_rest1_0x_3 : DL.Env → DS → F := ifB (tstD (bopD opNe (methD 1 (gateD 3 m_Mill_hours) (vD 4) (consA (vD 2) (consA (vD 7) (nilA)))) (vB 10))) (S_law_rest1_0x_3a_0) (nextB)
noncomputable def L_law_rest1_0 : DL.Env → DS → F := wipB [true, true, true, true, true, true, true, false, false, false, false, false, false, false, false] (seqB (S_law_rest1_0x_0) (seqB (S_law_rest1_0x_1) (seqB (S_law_rest1_0x_2) (S_law_rest1_0x_3))))
abbrev E_law_rest1_0 («dice» : Sl) («row» : Sl) («tide» : Sl) («mine» : Sl) («mill» : Sl) («high» : Sl) («runs» : Sl) : DL.Env := [«dice», «row», «tide», «mine», «mill», «high», «runs», .no, .no, .no, .no, .no, .no, .no, .no]
noncomputable def S_law_rest1_0 : DL.Env → DS → F := wipB [true, true, true, true, true, true, true, false, false, false, false, false, false, false, false] (forW [true, true, true, true, true, true, true, false, false, false, false, false, false, false, false] (rngD rng1 (consA (bopD opAdd (cD (.int 1)) (callD (gateD 2 m_law_roll) (consA (vD 0) (consA (cD (.int 5)) (nilA))))) (nilA))) (gN 7) L_law_rest1_0)
noncomputable def S_law_rest1_1a_0 : DL.Env → DS → F := retB (cD (.bl false))
noncomputable def S_law_rest1_1 : DL.Env → DS → F := ifB (orT (tstD (bopD opNe (methD 1 (gateD 3 m_Mill_year) (vD 4) (consA (vD 2) (consA (bltD lenO (consA (vB 6) (nilA))) (nilA)))) (bltD sumO (consA (vB 6) (nilA))))) (tstD (bopD opNe (methD 1 (gateD 3 m_Mill_worst) (vD 4) (consA (vD 2) (consA (bltD lenO (consA (vB 6) (nilA))) (nilA)))) (mthD isLst indexO (vB 6) (consA (bltD minO (consA (vB 6) (nilA))) (nilA)))))) (S_law_rest1_1a_0) (nextB)
noncomputable def S_law_rest1_2a_0 : DL.Env → DS → F := retB (cD (.bl false))
noncomputable def S_law_rest1_2 : DL.Env → DS → F := ifB (tstD (bopD opNe (callD (gateD 1 m_later_each_day) (consA (bopD opIx (vB 1) (cD (.int 1))) (nilA))) (bopD opSub (bopD opMul (cD (.int 2)) (bopD opIx (vB 1) (cD (.int 1)))) (cD (.int 1440))))) (S_law_rest1_2a_0) (nextB)
noncomputable def S_law_rest1_3 : DL.Env → DS → F := parB [14, 8] (consA (lstD (consA (cD (.int 0)) (consA (cD (.int 1)) (consA (cD (.int 2)) (consA (cD (.int 3)) (consA (cD (.int 3)) (consA (cD (.int 2)) (consA (cD (.int 1)) (nilA))))))))) (consA (callD (gateD 2 m_law_roll) (consA (vD 0) (consA (cD (.int 7)) (nilA)))) (nilA)))
noncomputable def S_law_rest1_4a_0 : DL.Env → DS → F := retB (cD (.bl false))
noncomputable def S_law_rest1_4 : DL.Env → DS → F := ifB (tstD (bopD opNe (callD (gateD 2 m_twelfths) (consA (vD 5) (consA (vD 8) (nilA)))) (bopD opDiv (bopD opMul (vB 5) (bltD sumO (consA (sliceD (vB 14) (partN) (partS (bopD opAdd (vB 8) (cD (.int 1))))) (nilA)))) (cD (.int 12))))) (S_law_rest1_4a_0) (nextB)
noncomputable def S_law_rest1_5 : DL.Env → DS → F := retB (callD (gateD 3 m_law_rest2) (consA (vD 0) (consA (vD 2) (consA (vD 4) (nilA)))))
noncomputable def B_law_rest1 : DL.Env → DS → F := seqB (S_law_rest1_0) (seqB (S_law_rest1_1) (seqB (S_law_rest1_2) (seqB (S_law_rest1_3) (seqB (S_law_rest1_4) (S_law_rest1_5)))))
noncomputable def m_law_rest1 : List D → DS → R D := fnD 15 B_law_rest1
noncomputable abbrev B_law_dice := DR.B_law_dice
noncomputable abbrev m_law_dice := DR.m_law_dice
noncomputable abbrev B_law_rounds := DR.B_law_rounds
noncomputable abbrev m_law_rounds := DR.m_law_rounds
noncomputable def S_law_0x_0 : DL.Env → DS → F := setB 2 (callD (gateD 2 m_law_roll) (consA (vD 1) (consA (cD (.int 300)) (nilA))))
noncomputable def S_law_0x_1 : DL.Env → DS → F := setB 3 (tupD (consA (callD (gateD 2 m_law_roll) (consA (vD 1) (consA (cD (.int 800)) (nilA)))) (consA (bopD opAdd (cD (.int 600)) (callD (gateD 2 m_law_roll) (consA (vD 1) (consA (cD (.int 200)) (nilA))))) (consA (bopD opAdd (vB 2) (callD (gateD 2 m_law_roll) (consA (vD 1) (consA (cD (.int 300)) (nilA))))) (consA (vD 2) (consA (bopD opAdd (cD (.int 2)) (callD (gateD 2 m_law_roll) (consA (vD 1) (consA (cD (.int 16)) (nilA))))) (nilA)))))))
noncomputable def S_law_0x_2 : DL.Env → DS → F := asgB (gT (gsC (gN 16) (gsC (gN 17) (gsN)))) (tupD (consA (calmN 0 5 (callD (gateD 5 m_Tide_init) (consA (bopD opIx (vB 3) (cD (.int 0))) (consA (bopD opIx (vB 3) (cD (.int 1))) (consA (bopD opIx (vB 3) (cD (.int 2))) (consA (bopD opIx (vB 3) (cD (.int 3))) (consA (bopD opIx (vB 3) (cD (.int 4))) (nilA)))))))) (consA (callD (gateD 2 m_law_roll) (consA (vD 1) (consA (cD (.int 30)) (nilA)))) (nilA))))
noncomputable def S_law_0x_3a_0 : DL.Env → DS → F := retB (cD (.bl false))
noncomputable def S_law_0x_3 : DL.Env → DS → F := ifB (orT (tstD (bopD opNe (methD 0 (gateD 2 m_Tide_high) (vD 16) (consA (vD 17) (nilA))) (bopD opAdd (bopD opIx (vB 3) (cD (.int 0))) (bopD opMul (vB 17) (bopD opIx (vB 3) (cD (.int 1))))))) (tstD (bopD opNe (methD 0 (gateD 1 m_Tide_key) (vD 16) nilA) (vB 3)))) (S_law_0x_3a_0) (nextB)
noncomputable def S_law_0x_4a_0 : DL.Env → DS → F := retB (cD (.bl false))
noncomputable def S_law_0x_4 : DL.Env → DS → F := ifB (tstD (bopD opNe (calmD (lcD (rngD rng1 (consA (cD (.int 12)) (nilA))) (gN 20) (yesT) (methD 0 (gateD 2 m_Tide_height) (vD 16) (consA (vD 20) (nilA))) [20])) (calmD (lcD (rngD rng1 (consA (cD (.int 12)) (nilA))) (gN 20) (yesT) (callD (gateD 2 m_law_height) (consA (vD 3) (consA (vD 20) (nilA)))) [20])))) (S_law_0x_4a_0) (nextB)
noncomputable def S_law_0x_5 : DL.Env → DS → F := setB 4 (callD (gateD 2 m_law_roll) (consA (vD 1) (consA (cD (.int 9000)) (nilA))))
noncomputable def S_law_0x_6 : DL.Env → DS → F := setB 5 (bopD opIx (calmD (lcD (rngD rng1 (consA (cD (.int 40)) (nilA))) (gN 20) (tstD (bopD opGe (bopD opAdd (bopD opIx (vB 3) (cD (.int 0))) (bopD opMul (vB 20) (bopD opIx (vB 3) (cD (.int 1))))) (vB 4))) (vD 20) [20])) (cD (.int 0)))
noncomputable def S_law_0x_7a_0 : DL.Env → DS → F := retB (cD (.bl false))
noncomputable def S_law_0x_7 : DL.Env → DS → F := ifB (tstD (bopD opNe (methD 0 (gateD 2 m_Tide_next_high) (vD 16) (consA (vD 4) (nilA))) (tupD (consA (vD 5) (consA (bopD opAdd (bopD opIx (vB 3) (cD (.int 0))) (bopD opMul (vB 5) (bopD opIx (vB 3) (cD (.int 1))))) (nilA)))))) (S_law_0x_7a_0) (nextB)
noncomputable def S_law_0x_8 : DL.Env → DS → F := setB 6 (lstD (consA (vD 4) (consA (bopD opAdd (bopD opIx (vB 3) (cD (.int 0))) (bopD opMul (vB 17) (bopD opIx (vB 3) (cD (.int 1))))) (consA (bopD opAdd (bopD opAdd (bopD opIx (vB 3) (cD (.int 0))) (bopD opMul (vB 17) (bopD opIx (vB 3) (cD (.int 1))))) (bopD opDiv (bopD opIx (vB 3) (cD (.int 1))) (cD (.int 2)))) (consA (bopD opAdd (bopD opAdd (bopD opIx (vB 3) (cD (.int 0))) (bopD opMul (vB 17) (bopD opIx (vB 3) (cD (.int 1))))) (cD (.int 17))) (nilA))))))
noncomputable def S_law_0x_9a_0 : DL.Env → DS → F := retB (cD (.bl false))
noncomputable def S_law_0x_9 : DL.Env → DS → F := ifB (tstD (bopD opNe (calmD (lcD (iterD scrO (vD 6)) (gN 11) (yesT) (methD 0 (gateD 2 m_Tide_level) (vD 16) (consA (vD 11) (nilA))) [11])) (calmD (lcD (iterD scrO (vD 6)) (gN 11) (yesT) (callD (gateD 2 m_law_level) (consA (vD 3) (consA (vD 11) (nilA)))) [11])))) (S_law_0x_9a_0) (nextB)
noncomputable def S_law_0x_10 : DL.Env → DS → F := setB 7 (callD (gateD 2 m_law_roll) (consA (vD 1) (consA (cD (.int 9)) (nilA))))
noncomputable def S_law_0x_11 : DL.Env → DS → F := setB 8 (calmD (lcD (rngD rng1 (consA (cD (.int 40)) (nilA))) (gN 20) (yesT) (bopD opSub (bopD opAdd (bopD opIx (vB 3) (cD (.int 0))) (bopD opMul (vB 20) (bopD opIx (vB 3) (cD (.int 1))))) (bopD opMul (cD (.int 1440)) (vB 7))) [20]))
noncomputable def S_law_0x_12a_0 : DL.Env → DS → F := retB (cD (.bl false))
noncomputable def S_law_0x_12 : DL.Env → DS → F := ifB (tstD (bopD opNe (bltD listO (consA (methD 0 (gateD 2 m_Tide_on_day) (vD 16) (consA (vD 7) (nilA))) (nilA))) (calmD (lcD (iterD scrO (vD 8)) (gN 11) (tstD (chD opLe opLt (cD (.int 0)) (vB 11) (cD (.int 1440)))) (vD 11) [11])))) (S_law_0x_12a_0) (nextB)
noncomputable def S_law_0x_13 : DL.Env → DS → F := asgB (gT (gsC (gN 18) (gsC (gN 19) (gsN)))) (tupD (consA (bopD opAdd (cD (.int 1)) (callD (gateD 2 m_law_roll) (consA (vD 1) (consA (cD (.int 8)) (nilA))))) (consA (callD (gateD 2 m_law_roll) (consA (vD 1) (consA (cD (.int 900)) (nilA)))) (nilA))))
noncomputable def S_law_0x_14 : DL.Env → DS → F := setB 9 (bopD opAdd (bopD opAdd (vB 19) (cD (.int 1))) (callD (gateD 2 m_law_roll) (consA (vD 1) (consA (cD (.int 500)) (nilA)))))
noncomputable def S_law_0x_15 : DL.Env → DS → F := setOB 10 (lstD (nilA))
noncomputable def S_law_0x_16x_0 : DL.Env → DS → F := mtB isLst (plV 10) (consA (bltD lenO (consA (calmD (lcD (rngD rng1 (consA (cD (.int 40)) (nilA))) (gN 20) (tstD (chD opLe opLt (vB 19) (bopD opSub (bopD opAdd (bopD opIx (vB 3) (cD (.int 0))) (bopD opMul (vB 20) (bopD opIx (vB 3) (cD (.int 1))))) (bopD opMul (cD (.int 1440)) (vB 11))) (vB 9))) (vD 20) [20])) (nilA))) (nilA)) appU
noncomputable def L_law_0x_16 : DL.Env → DS → F := wipB [false, true, false, true, false, false, false, false, false, true, true, false, false, false, false, false, true, false] (S_law_0x_16x_0)
abbrev E_law_0x_16 («dice» : Sl) («row» : Sl) («dark» : Sl) («counts» : Sl) («tide» : Sl) («days» : Sl) («light» : Sl) : DL.Env := [.no, «dice», .no, «row», .no, .no, .no, .no, .no, «dark», «counts», .no, .no, .no, .no, .no, «tide», .no, «days», «light», .no]
noncomputable def S_law_0x_16 : DL.Env → DS → F := wipB [false, true, false, true, false, false, false, false, false, true, true, false, false, false, false, false, true, false] (forW [false, true, false, true, false, false, false, false, false, true, true, false, false, false, false, false, true, false] (rngD rng1 (consA (vD 18) (nilA))) (gN 11) L_law_0x_16)
noncomputable def S_law_0x_17a_0 : DL.Env → DS → F := retB (cD (.bl false))
noncomputable def S_law_0x_17 : DL.Env → DS → F := ifB (tstD (bopD opNe (bltD listO (consA (methD 0 (gateD 4 m_Tide_best_days) (vD 16) (consA (vD 18) (consA (vD 19) (consA (vD 9) (nilA))))) (nilA))) (calmD (lcD (rngD rng1 (consA (vD 18) (nilA))) (gN 11) (tstD (bopD opEq (bopD opIx (vB 10) (vB 11)) (bltD maxO (consA (vB 10) (nilA))))) (vD 11) [11])))) (S_law_0x_17a_0) (nextB)
noncomputable def S_law_0x_18 : DL.Env → DS → F := setB 12 (tupD (consA (callD (gateD 2 m_law_roll) (consA (vD 1) (consA (cD (.int 200)) (nilA)))) (consA (bopD opAdd (cD (.int 1)) (callD (gateD 2 m_law_roll) (consA (vD 1) (consA (cD (.int 20)) (nilA))))) (consA (bopD opAdd (cD (.int 1)) (callD (gateD 2 m_law_roll) (consA (vD 1) (consA (cD (.int 900)) (nilA))))) (consA (callD (gateD 2 m_law_roll) (consA (vD 1) (consA (cD (.int 120)) (nilA)))) (nilA))))))
noncomputable def S_law_0x_19 : DL.Env → DS → F := setB 13 (calmN 1 4 (callD (gateD 4 m_Mill_init) (consA (bopD opIx (vB 12) (cD (.int 0))) (consA (bopD opIx (vB 12) (cD (.int 1))) (consA (bopD opIx (vB 12) (cD (.int 2))) (consA (bopD opIx (vB 12) (cD (.int 3))) (nilA)))))))
noncomputable def S_law_0x_20 : DL.Env → DS → F := setB 14 (callD (gateD 2 m_law_roll) (consA (vD 1) (consA (cD (.int 600)) (nilA))))
noncomputable def S_law_0x_21a_0 : DL.Env → DS → F := retB (cD (.bl false))
noncomputable def S_law_0x_21 : DL.Env → DS → F := ifB (orT (tstD (bopD opNe (methD 1 (gateD 2 m_Mill_filled) (vD 13) (consA (vD 14) (nilA))) (bopD opMul (bltD max2O (consA (cD (.int 0)) (consA (bopD opSub (vB 14) (bopD opIx (vB 12) (cD (.int 0)))) (nilA)))) (bopD opIx (vB 12) (cD (.int 1)))))) (tstD (bopD opNe (methD 1 (gateD 1 m_Mill_key) (vD 13) nilA) (vB 12)))) (S_law_0x_21a_0) (nextB)
noncomputable def S_law_0x_22 : DL.Env → DS → F := setB 15 (hanD (lstD (nilA)))
noncomputable def S_law_0x_23a_0 : DL.Env → DS → F := retB (cD (.bl false))
noncomputable def S_law_0x_23 : DL.Env → DS → F := ifB (notT (tstD (callD (gateD 7 m_law_rest1) (consA (vD 1) (consA (vD 3) (consA (vD 16) (consA (vD 12) (consA (vD 13) (consA (vD 14) (consA (vD 15) (nilA))))))))))) (S_law_0x_23a_0) (nextB)
noncomputable def L_law_0 : DL.Env → DS → F := wipB [false, false, false, false, false, false, false, false, false, false, false, false, false, false, false, false, false, false, false, false] (seqB (S_law_0x_0) (seqB (S_law_0x_1) (seqB (S_law_0x_2) (seqB (S_law_0x_3) (seqB (S_law_0x_4) (seqB (S_law_0x_5) (seqB (S_law_0x_6) (seqB (S_law_0x_7) (seqB (S_law_0x_8) (seqB (S_law_0x_9) (seqB (S_law_0x_10) (seqB (S_law_0x_11) (seqB (S_law_0x_12) (seqB (S_law_0x_13) (seqB (S_law_0x_14) (seqB (S_law_0x_15) (seqB (S_law_0x_16) (seqB (S_law_0x_17) (seqB (S_law_0x_18) (seqB (S_law_0x_19) (seqB (S_law_0x_20) (seqB (S_law_0x_21) (seqB (S_law_0x_22) (S_law_0x_23))))))))))))))))))))))))
abbrev E_law_0 : DL.Env := [.no, .no, .no, .no, .no, .no, .no, .no, .no, .no, .no, .no, .no, .no, .no, .no, .no, .no, .no, .no, .no]
noncomputable def S_law_0 : DL.Env → DS → F := wipB [false, false, false, false, false, false, false, false, false, false, false, false, false, false, false, false, false, false, false, false] (forW [false, false, false, false, false, false, false, false, false, false, false, false, false, false, false, false, false, false, false, false] (iterD scrO (callD (gateD 2 m_law_rounds) (consA (vD 0) (consA (cD (.int 1)) (nilA))))) (gN 1) L_law_0)
noncomputable def S_law_1 : DL.Env → DS → F := retB (cD (.bl true))
noncomputable def B_law : DL.Env → DS → F := seqB (S_law_0) (S_law_1)
noncomputable def m_law : List D → DS → R D := fnD 21 B_law
local macro_rules | `(tactic| walk_at "dl") => `(tactic| simp -implicitDefEqProofs (disch := first | omega | assumption | (simp only [okN, okNL, okNL_mi, D.has, hasL, flt, isI, isS, List.all_cons, List.all_nil, Bool.or_true, Bool.true_or, Bool.false_or, Bool.false_and, Bool.and_self, Bool.and_true, Bool.true_and]; done) | (simp only [List.length_cons, List.length_nil, List.length_append, List.length_map, List.length_range]; omega) | (simp only [okN, okNL, Bool.and_self, Bool.and_true, Bool.true_and]; decide +kernel) | decide +kernel | fail) only [ seqB_eq, then_nx, then_rt, then_bk, then_ct, then_ex, then_bad, bind_ok, bind_ex, bind_bad, toF_ok, toF_ex, toF_bad, ofO_some, ofO_none, nx_ok, cD_eq, vD_0, vD_s, vB_0, vB_o, vB_s, bopD_eq, uopD_eq, tstD_eq, asB_bl, asI_int, deref_int, deref_bl, deref_str, deref_non, deref_tup, deref_lst, deref_dic, deref_obj, deref_scr, deref_han, chD_eq, ch3D_eq, andT_eq, orT_eq, notT_eq, ifD_eq, andD_eq, orD_eq, notD_eq, nilA_eq, consA_eq, tupD_eq, lstD_eq, fldD_eq, bltD_eq, partN_eq, partS_eq, sliceD_eq, callD_eq, gateD_eq, methD_eq, isC_obj, calmD_eq, calmN_eq, calmK_obj, hanD_eq, notObj_l, notObj_t, notObj_d, setB_eq, setOB_eq, setF_eq, setOF_eq, ifB_eq, retB_eq, retN_eq, dropB_eq, nextB_eq, breakB_eq, contB_eq, raiseA_eq, augB_eq, frzB_eq, frzL_nil, frzL_cons, frzE_zl, frzE_zd, frzE_zv, frzE_zn, frzE_s, asgB_eq, asg2B_eq, parB_eq, putAll_nil, putAll_cons, asgFB_eq, nilF_eq, consV_eq, consO_eq, gN_eq, gsN_eq, gsC_eq, gT_eq, fnD_eq, fnK_nx, fnK_rt, fnK_ex, fnK_bad, inD_eq, inK_nx, inK_ex, toldD_eq,  ite_yes, ite_no, dec_yes, dec_no, plV_eq, plK_o, plK_h, plE_eq, plEK_h, wrF_slot, wrF_han, wrS_o, wrH_s, wrSU_s, wrHU_s, fldB_eq, fldU_eq, stB_eq, stAK_s, stAugB_eq, fldAugB_eq, plcD_slot, plcD_han, plS_o, mtB_eq, mthD_eq, isLst_l, appU_l, setL_l, getL_l, ixN_ok, atI_0, atI_1, atI_2, atI_3, atI_4, atI_5, atI_6, atI_7, atI_8, atI_9, atI_10, atI_11, atI_12, atI_13, atI_14, atI_15, forB_eq, rngD_eq, iterD_eq, rng1_int, rng2_int, scrO_l, scrO_s, lstO_l, tupO_l, putK_some, goK_nx, goK_ct, goK_bk, goK_rt, goK_ex, lcD_eq, wipeE_nil, wipeE_cons, yesT_eq, lcPut_some, wipB_eq, forW_eq, preB_eq, wip_nx, wip_bk, wip_ct, wip_rt, wip_ex, wip_bad, keep_t, keep_f, keep_n, asgO_s, asgK_eq, asgFK_eq, putS_nil, putS_v, putS_o, and_self, ite_self, wrS_o, wrSU_s, true_and, and_true, false_and, and_false, decide_true, decide_false, Int.reduceLT, Int.reduceLE, Int.reduceEq, Int.reduceAdd, Int.reduceSub, Int.reduceMul, Int.reduceNeg, Int.reduceDiv, Int.reduceMod, Int.reduceNe, turnF_eq,
  cut_to, cut_from, cut_both, opCut_l, opCut_t, opCut_s, opPow_int, opAdd_tup, opAdd_lst, opEq_ts, opEq_ls, opEq_st, opEq_sl, opNe_ts, opNe_ls, opNe_st, opNe_sl, opEq_ss, opNe_ss, opEq_nn, opNe_self, opEq_self, opNe_nn, opNe_lnil, opEq_lnil, opNe_is, opEq_is, opNe_si, opEq_si, opNe_bb, opEq_bb, opAdd_int, opAug_int, opSub_int, opMul_r, opMul_l, opMulI_r, opMulI_l, opDiv_int, opMod_int, opLt_int, opLe_int, opGt_int, opGe_int, opEq_int, opNe_int, min2_int, max2_int, min3_int, min4_int, opNeg_int, listO_l, listO_t, tupleO_l, tupleO_t, zipO_ll, zipO_tt, enumO_l, lenO_l, lenO_t, opIn_lst, opIn_tup, opNin_lst, opNin_tup, eqB_ss, eqB_ii, List.any_cons, List.any_nil, gSumD_eq, gAnyD_eq, anyF_nil, anyPut_some, absO_int, intO_int, intO_bl, fldO_eq, opIx_t, opIx_l,
  Bool.true_and, Bool.and_true, Bool.false_and, Bool.and_false, List.map_cons, List.map_nil, List.length_cons, List.length_nil, List.set_cons_zero, List.set_cons_succ, List.getElem?_cons_zero, List.getElem?_cons_succ, Option.map_some, Option.bind_some, decide_eq_true_eq, Bool.not_eq_true', decide_eq_false_iff_not, Bool.not_true, Bool.false_eq_true, reduceCtorEq, Bool.not_false, ite_true, ite_false, if_true, if_false, Nat.reduceAdd, Nat.reduceLeDiff, Nat.reduceLT, Nat.reduceSub, beq_self_eq_true, Nat.reduceEqDiff, reduceIte, Int.reduceToNat, Int.reducePow, List.take_zero, List.take_nil, List.drop_nil, List.drop_zero, List.take_succ_cons, List.drop_succ_cons, forF_nil, padE, List.length_append, List.replicate, List.append_nil, List.cons_append, List.nil_append])
theorem law_of (hb : ∀ x : DR.Dc, ∃ s', turnF (gN 1) L_law_0 (.han 0) E_law_0 [x.d] = .nx E_law_0 s') (ns : List Int) (_h : ns.length ≤ 63) : ∃ s, m_law [.scr ns] [] = .ok (.bl true) s := by
  obtain ⟨x, e⟩ := DR.rounds_eq ns
  have e' : m_law_rounds [.scr ns, .int 1] [] = _ := e
  obtain ⟨s', e2⟩ := hb x
  unfold m_law B_law S_law_0
  walk_at "dl"
  rw [e']
  walk_at "dl"
  rw [forF_cons2, e2]
  unfold S_law_1
  walk_at "dl"
  exact ⟨_, rfl⟩
end L13
set_option Elab.async false
set_option linter.all false
set_option maxRecDepth 100000
set_option maxHeartbeats 4000000
namespace L13
open PySem PySem.Spec PyProof.Rows L2 DL
def top (i : Nat) : Stmt := PySem.Challenge.pw_millhall_k13_tides.main.body.getD i (.Pass ⟨0, 0, 0, 0⟩)
abbrev s_Mill_init : Stmt := (inClass (top 12) 0)
abbrev s_Mill_filled : Stmt := (inClass (top 12) 1)
abbrev s_Mill_key : Stmt := (inClass (top 12) 6)
abbrev s_Tide_init : Stmt := (inClass (top 11) 0)
abbrev s_Tide_high : Stmt := (inClass (top 11) 1)
abbrev s_Tide_next_high : Stmt := (inClass (top 11) 2)
abbrev s_Tide_on_day : Stmt := (inClass (top 11) 5)
abbrev s_Tide_best_days : Stmt := (inClass (top 11) 6)
abbrev s_Tide_height : Stmt := (inClass (top 11) 3)
abbrev s_Tide_key : Stmt := (inClass (top 11) 7)
abbrev s_Tide_level : Stmt := (inClass (top 11) 4)
abbrev s_law_height : Stmt := top 21
abbrev s_law_level : Stmt := top 22
abbrev s_Mill_can_run : Stmt := (inClass (top 12) 3)
abbrev s_Mill_hours : Stmt := (inClass (top 12) 2)
abbrev s_Mill_worst : Stmt := (inClass (top 12) 5)
abbrev s_Mill_year : Stmt := (inClass (top 12) 4)
abbrev s_law_told : Stmt := top 20
abbrev s_later_each_day : Stmt := top 13
abbrev s_read_height : Stmt := top 15
abbrev s_twelfths : Stmt := top 14
abbrev s_law_cases1 : Stmt := top 23
abbrev s_law_roll : Stmt := top 18
abbrev s_law_rest2 : Stmt := top 24
abbrev s_law_rest1 : Stmt := top 25
abbrev s_law_dice : Stmt := top 17
abbrev s_law_rounds : Stmt := top 19
abbrev s_law : Stmt := top 26
def d_Mill_init : He.DefD := ⟨("Mill", some "__init__"), "__init__", "Mill.__init__", defArgs s_Mill_init, defBody s_Mill_init, defScope s_Mill_init, [], []⟩
def d_Mill_filled : He.DefD := ⟨("Mill", some "filled"), "filled", "Mill.filled", defArgs s_Mill_filled, defBody s_Mill_filled, defScope s_Mill_filled, [], []⟩
def d_Mill_key : He.DefD := ⟨("Mill", some "key"), "key", "Mill.key", defArgs s_Mill_key, defBody s_Mill_key, defScope s_Mill_key, [], []⟩
def d_Tide_init : He.DefD := ⟨("Tide", some "__init__"), "__init__", "Tide.__init__", defArgs s_Tide_init, defBody s_Tide_init, defScope s_Tide_init, [], []⟩
def d_Tide_high : He.DefD := ⟨("Tide", some "high"), "high", "Tide.high", defArgs s_Tide_high, defBody s_Tide_high, defScope s_Tide_high, [], []⟩
def d_Tide_next_high : He.DefD := ⟨("Tide", some "next_high"), "next_high", "Tide.next_high", defArgs s_Tide_next_high, defBody s_Tide_next_high, defScope s_Tide_next_high, [], []⟩
def d_Tide_on_day : He.DefD := ⟨("Tide", some "on_day"), "on_day", "Tide.on_day", defArgs s_Tide_on_day, defBody s_Tide_on_day, defScope s_Tide_on_day, [], []⟩
def d_Tide_best_days : He.DefD := ⟨("Tide", some "best_days"), "best_days", "Tide.best_days", defArgs s_Tide_best_days, defBody s_Tide_best_days, defScope s_Tide_best_days, [], []⟩
def d_Tide_height : He.DefD := ⟨("Tide", some "height"), "height", "Tide.height", defArgs s_Tide_height, defBody s_Tide_height, defScope s_Tide_height, [], []⟩
def d_Tide_key : He.DefD := ⟨("Tide", some "key"), "key", "Tide.key", defArgs s_Tide_key, defBody s_Tide_key, defScope s_Tide_key, [], []⟩
def d_Tide_level : He.DefD := ⟨("Tide", some "level"), "level", "Tide.level", defArgs s_Tide_level, defBody s_Tide_level, defScope s_Tide_level, [], []⟩
def d_law_height : He.DefD := ⟨("_law_height", none), "_law_height", "_law_height", defArgs s_law_height, defBody s_law_height, defScope s_law_height, [], []⟩
def d_law_level : He.DefD := ⟨("_law_level", none), "_law_level", "_law_level", defArgs s_law_level, defBody s_law_level, defScope s_law_level, [], []⟩
def d_Mill_can_run : He.DefD := ⟨("Mill", some "can_run"), "can_run", "Mill.can_run", defArgs s_Mill_can_run, defBody s_Mill_can_run, defScope s_Mill_can_run, [], []⟩
def d_Mill_hours : He.DefD := ⟨("Mill", some "hours"), "hours", "Mill.hours", defArgs s_Mill_hours, defBody s_Mill_hours, defScope s_Mill_hours, [], []⟩
def d_Mill_worst : He.DefD := ⟨("Mill", some "worst"), "worst", "Mill.worst", defArgs s_Mill_worst, defBody s_Mill_worst, defScope s_Mill_worst, [], []⟩
def d_Mill_year : He.DefD := ⟨("Mill", some "year"), "year", "Mill.year", defArgs s_Mill_year, defBody s_Mill_year, defScope s_Mill_year, [], []⟩
def d_law_told : He.DefD := ⟨("_law_told", none), "_law_told", "_law_told", defArgs s_law_told, defBody s_law_told, defScope s_law_told, [], []⟩
def d_later_each_day : He.DefD := ⟨("later_each_day", none), "later_each_day", "later_each_day", defArgs s_later_each_day, defBody s_later_each_day, defScope s_later_each_day, [], []⟩
def d_read_height : He.DefD := ⟨("read_height", none), "read_height", "read_height", defArgs s_read_height, defBody s_read_height, defScope s_read_height, [], []⟩
def d_twelfths : He.DefD := ⟨("twelfths", none), "twelfths", "twelfths", defArgs s_twelfths, defBody s_twelfths, defScope s_twelfths, [], []⟩
def d_law_cases1 : He.DefD := ⟨("_law_cases1", none), "_law_cases1", "_law_cases1", defArgs s_law_cases1, defBody s_law_cases1, defScope s_law_cases1, [], []⟩
def d_law_roll : He.DefD := ⟨("_law_roll", none), "_law_roll", "_law_roll", defArgs s_law_roll, defBody s_law_roll, defScope s_law_roll, [], []⟩
def d_law_rest2 : He.DefD := ⟨("_law_rest2", none), "_law_rest2", "_law_rest2", defArgs s_law_rest2, defBody s_law_rest2, defScope s_law_rest2, [], []⟩
def d_law_rest1 : He.DefD := ⟨("_law_rest1", none), "_law_rest1", "_law_rest1", defArgs s_law_rest1, defBody s_law_rest1, defScope s_law_rest1, [], []⟩
def d_law_dice : He.DefD := ⟨("_law_dice", none), "_law_dice", "_law_dice", defArgs s_law_dice, defBody s_law_dice, defScope s_law_dice, [], []⟩
def d_law_rounds : He.DefD := ⟨("_law_rounds", none), "_law_rounds", "_law_rounds", defArgs s_law_rounds, defBody s_law_rounds, defScope s_law_rounds, [], []⟩
def d_law : He.DefD := ⟨("law", none), "law", "law", defArgs s_law, defBody s_law, defScope s_law, [], []⟩
def fn : List He.DefD := [d_Mill_init, d_Mill_filled, d_Mill_key, d_Tide_init, d_Tide_high, d_Tide_next_high, d_Tide_on_day, d_Tide_best_days, d_Tide_height, d_Tide_key, d_Tide_level, d_law_height, d_law_level, d_Mill_can_run, d_Mill_hours, d_Mill_worst, d_Mill_year, d_law_told, d_later_each_day, d_read_height, d_twelfths, d_law_cases1, d_law_roll, d_law_rest2, d_law_rest1, d_law_dice, d_law_rounds, d_law]
def fa : List He.Fa := [.glo "_law_height", .glo "_law_level", .glo "_law_told", .glo "later_each_day", .glo "read_height", .glo "twelfths", .glo "_law_cases1", .glo "_law_roll", .glo "_law_rest2", .glo "_law_rest1", .glo "_law_dice", .glo "_law_rounds", .glo "law", .glo "Tide", .cls "Tide", .noat "Tide" "first", .noat "Tide" "between", .noat "Tide" "spring", .noat "Tide" "neap", .noat "Tide" "days", .mkr "Tide", .meth "Tide" "high", .meth "Tide" "next_high", .meth "Tide" "on_day", .meth "Tide" "best_days", .meth "Tide" "height", .meth "Tide" "key", .meth "Tide" "level", .glo "Mill", .cls "Mill", .noat "Mill" "sill", .noat "Mill" "water", .noat "Mill" "takes", .noat "Mill" "fall", .mkr "Mill", .meth "Mill" "filled", .meth "Mill" "key", .meth "Mill" "can_run", .meth "Mill" "hours", .meth "Mill" "worst", .meth "Mill" "year", .glo "BadSize", .exc "BadSize", .glo "BadPlan", .exc "BadPlan", .glo "NoSuch", .exc "NoSuch", .glo "NoRoom", .exc "NoRoom", .glo "NoWay", .exc "NoWay", .glo "Short", .exc "Short", .glo "BadText", .glo "BadDeed", .exc "BadDeed", .exm "BadSize" "BadSize" true, .exm "BadSize" "BadPlan" false, .exm "BadSize" "NoSuch" false, .exm "BadSize" "NoRoom" false, .exm "BadSize" "NoWay" false, .exm "BadSize" "Short" false, .exm "BadSize" "BadText" false, .exm "BadSize" "BadDeed" false, .exm "BadPlan" "BadSize" false, .exm "BadPlan" "BadPlan" true, .exm "BadPlan" "NoSuch" false, .exm "BadPlan" "NoRoom" false, .exm "BadPlan" "NoWay" false, .exm "BadPlan" "Short" false, .exm "BadPlan" "BadText" false, .exm "BadPlan" "BadDeed" false, .exm "NoSuch" "BadSize" false, .exm "NoSuch" "BadPlan" false, .exm "NoSuch" "NoSuch" true, .exm "NoSuch" "NoRoom" false, .exm "NoSuch" "NoWay" false, .exm "NoSuch" "Short" false, .exm "NoSuch" "BadText" false, .exm "NoSuch" "BadDeed" false, .exm "NoRoom" "BadSize" false, .exm "NoRoom" "BadPlan" false, .exm "NoRoom" "NoSuch" false, .exm "NoRoom" "NoRoom" true, .exm "NoRoom" "NoWay" false, .exm "NoRoom" "Short" false, .exm "NoRoom" "BadText" false, .exm "NoRoom" "BadDeed" false, .exm "NoWay" "BadSize" false, .exm "NoWay" "BadPlan" false, .exm "NoWay" "NoSuch" false, .exm "NoWay" "NoRoom" false, .exm "NoWay" "NoWay" true, .exm "NoWay" "Short" false, .exm "NoWay" "BadText" false, .exm "NoWay" "BadDeed" false, .exm "Short" "BadSize" false, .exm "Short" "BadPlan" false, .exm "Short" "NoSuch" false, .exm "Short" "NoRoom" false, .exm "Short" "NoWay" false, .exm "Short" "Short" true, .exm "Short" "BadText" false, .exm "Short" "BadDeed" false, .exm "BadText" "BadSize" false, .exm "BadText" "BadPlan" false, .exm "BadText" "NoSuch" false, .exm "BadText" "NoRoom" false, .exm "BadText" "NoWay" false, .exm "BadText" "Short" false, .exm "BadText" "BadText" true, .exm "BadText" "BadDeed" false, .exm "BadDeed" "BadSize" false, .exm "BadDeed" "BadPlan" false, .exm "BadDeed" "NoSuch" false, .exm "BadDeed" "NoRoom" false, .exm "BadDeed" "NoWay" false, .exm "BadDeed" "Short" false, .exm "BadDeed" "BadText" false, .exm "BadDeed" "BadDeed" true, .free "abs", .free "any", .free "enumerate", .free "int", .free "len", .free "list", .free "max", .free "min", .free "range", .free "sum", .free "tuple", .free "zip"]
def tf : List He.Defn := [("Tide", some "best_days"), ("Mill", some "year"), ("read_height", none), ("_law_cases1", none), ("_law_rest2", none)]
def ex (K : PySem.W.Frag) : Bool := decide ((tf.map fun p => (He.cT K p).2).Nodup)
def MM (K : PySem.W.Frag) : Mp where
  cls := fun n => match n with
    | 0 => He.ga K "Tide"
    | 1 => He.ga K "Mill"
    | _ => 0
  flds := fun n => match n with
    | 0 => ["first", "between", "spring", "neap", "days"]
    | 1 => ["sill", "water", "takes", "fall"]
    | _ => []
  exc := fun n => match n with
    | 0 => He.ga K "MillFault"
    | 1 => He.ga K "BadSize"
    | 2 => He.ga K "BadPlan"
    | 3 => He.ga K "NoSuch"
    | 4 => He.ga K "NoRoom"
    | 5 => He.ga K "NoWay"
    | 6 => He.ga K "Short"
    | 7 => He.ga K "BadText"
    | 8 => He.ga K "BadDeed"
    | _ => 0
  row := "row"
  tabs := [((He.cT K ("Tide", some "best_days")).2, "Tide.best_days.<locals>.<genexpr>"), ((He.cT K ("Mill", some "year")).2, "Mill.year.<locals>.<genexpr>"), ((He.cT K ("read_height", none)).2, "read_height.<locals>.<genexpr>"), ((He.cT K ("_law_cases1", none)).2, "_law_cases1.<locals>.<lambda>"), ((He.cT K ("_law_rest2", none)).2, "_law_rest2.<locals>.<lambda>")]
structure Txt (w : World) (K : PySem.W.Frag) (mg : Str → Option Value) (base h : Heap) : Prop where
  KX : K.In h
  G : h.Ns mainGlobals mg
  c : He.SaysX fa fn [] tf ex w h K
  TB : ∀ p ∈ tf, LamX.TabB base mg (He.cT K p).1 (He.cT K p).2
section
variable {w : World} {K : PySem.W.Frag} {mg : Str → Option Value} {base h : Heap}
theorem g_law_height (T : Txt w K mg base h) : mg "_law_height" = some (.ref (He.fAd K ("_law_height", none))) := He.glo_ok T.KX T.G (T.c.t.d.fact 0 (f := .glo "_law_height") rfl)
theorem g_law_level (T : Txt w K mg base h) : mg "_law_level" = some (.ref (He.fAd K ("_law_level", none))) := He.glo_ok T.KX T.G (T.c.t.d.fact 1 (f := .glo "_law_level") rfl)
theorem g_law_told (T : Txt w K mg base h) : mg "_law_told" = some (.ref (He.fAd K ("_law_told", none))) := He.glo_ok T.KX T.G (T.c.t.d.fact 2 (f := .glo "_law_told") rfl)
theorem g_later_each_day (T : Txt w K mg base h) : mg "later_each_day" = some (.ref (He.fAd K ("later_each_day", none))) := He.glo_ok T.KX T.G (T.c.t.d.fact 3 (f := .glo "later_each_day") rfl)
theorem g_read_height (T : Txt w K mg base h) : mg "read_height" = some (.ref (He.fAd K ("read_height", none))) := He.glo_ok T.KX T.G (T.c.t.d.fact 4 (f := .glo "read_height") rfl)
theorem g_twelfths (T : Txt w K mg base h) : mg "twelfths" = some (.ref (He.fAd K ("twelfths", none))) := He.glo_ok T.KX T.G (T.c.t.d.fact 5 (f := .glo "twelfths") rfl)
theorem g_law_cases1 (T : Txt w K mg base h) : mg "_law_cases1" = some (.ref (He.fAd K ("_law_cases1", none))) := He.glo_ok T.KX T.G (T.c.t.d.fact 6 (f := .glo "_law_cases1") rfl)
theorem g_law_roll (T : Txt w K mg base h) : mg "_law_roll" = some (.ref (He.fAd K ("_law_roll", none))) := He.glo_ok T.KX T.G (T.c.t.d.fact 7 (f := .glo "_law_roll") rfl)
theorem g_law_rest2 (T : Txt w K mg base h) : mg "_law_rest2" = some (.ref (He.fAd K ("_law_rest2", none))) := He.glo_ok T.KX T.G (T.c.t.d.fact 8 (f := .glo "_law_rest2") rfl)
theorem g_law_rest1 (T : Txt w K mg base h) : mg "_law_rest1" = some (.ref (He.fAd K ("_law_rest1", none))) := He.glo_ok T.KX T.G (T.c.t.d.fact 9 (f := .glo "_law_rest1") rfl)
theorem g_law_dice (T : Txt w K mg base h) : mg "_law_dice" = some (.ref (He.fAd K ("_law_dice", none))) := He.glo_ok T.KX T.G (T.c.t.d.fact 10 (f := .glo "_law_dice") rfl)
theorem g_law_rounds (T : Txt w K mg base h) : mg "_law_rounds" = some (.ref (He.fAd K ("_law_rounds", none))) := He.glo_ok T.KX T.G (T.c.t.d.fact 11 (f := .glo "_law_rounds") rfl)
theorem g_law (T : Txt w K mg base h) : mg "law" = some (.ref (He.fAd K ("law", none))) := He.glo_ok T.KX T.G (T.c.t.d.fact 12 (f := .glo "law") rfl)
theorem g_Tide (T : Txt w K mg base h) : mg "Tide" = some (.ref ((MM K).cls 0)) := He.glo_ok T.KX T.G (T.c.t.d.fact 13 (f := .glo "Tide") rfl)
theorem Txt.cls0 (T : Txt w K mg base h) : ClsOk K (MM K) 0 where
  cl := He.cls_ok (T.c.t.d.fact 14 (f := .cls "Tide") rfl)
  no := fun f hf => by
    have hf2 : f ∈ (["first", "between", "spring", "neap", "days"] : List Str) := hf
    simp only [List.mem_cons, List.not_mem_nil, or_false] at hf2
    rcases hf2 with rfl | rfl | rfl | rfl | rfl
    · exact He.noat_ok (T.c.t.d.fact 15 (f := .noat "Tide" "first") rfl)
    · exact He.noat_ok (T.c.t.d.fact 16 (f := .noat "Tide" "between") rfl)
    · exact He.noat_ok (T.c.t.d.fact 17 (f := .noat "Tide" "spring") rfl)
    · exact He.noat_ok (T.c.t.d.fact 18 (f := .noat "Tide" "neap") rfl)
    · exact He.noat_ok (T.c.t.d.fact 19 (f := .noat "Tide" "days") rfl)
  nd := by show (["first", "between", "spring", "neap", "days"] : List Str).Nodup; decide +kernel
  few := by show (["first", "between", "spring", "neap", "days"] : List Str).length < 1000; decide
theorem mk_Tide (T : Txt w K mg base h) : Mk K ((MM K).cls 0) (He.fAd K ("Tide", some "__init__")) := He.mkr_ok (T.c.t.d.fact 20 (f := .mkr "Tide") rfl)
theorem me_Tide_high (T : Txt w K mg base h) : Meth K ((MM K).cls 0) "high" (He.fAd K ("Tide", some "high")) := He.meth_ok (T.c.t.d.fact 21 (f := .meth "Tide" "high") rfl)
theorem me_Tide_next_high (T : Txt w K mg base h) : Meth K ((MM K).cls 0) "next_high" (He.fAd K ("Tide", some "next_high")) := He.meth_ok (T.c.t.d.fact 22 (f := .meth "Tide" "next_high") rfl)
theorem me_Tide_on_day (T : Txt w K mg base h) : Meth K ((MM K).cls 0) "on_day" (He.fAd K ("Tide", some "on_day")) := He.meth_ok (T.c.t.d.fact 23 (f := .meth "Tide" "on_day") rfl)
theorem me_Tide_best_days (T : Txt w K mg base h) : Meth K ((MM K).cls 0) "best_days" (He.fAd K ("Tide", some "best_days")) := He.meth_ok (T.c.t.d.fact 24 (f := .meth "Tide" "best_days") rfl)
theorem me_Tide_height (T : Txt w K mg base h) : Meth K ((MM K).cls 0) "height" (He.fAd K ("Tide", some "height")) := He.meth_ok (T.c.t.d.fact 25 (f := .meth "Tide" "height") rfl)
theorem me_Tide_key (T : Txt w K mg base h) : Meth K ((MM K).cls 0) "key" (He.fAd K ("Tide", some "key")) := He.meth_ok (T.c.t.d.fact 26 (f := .meth "Tide" "key") rfl)
theorem me_Tide_level (T : Txt w K mg base h) : Meth K ((MM K).cls 0) "level" (He.fAd K ("Tide", some "level")) := He.meth_ok (T.c.t.d.fact 27 (f := .meth "Tide" "level") rfl)
theorem g_Mill (T : Txt w K mg base h) : mg "Mill" = some (.ref ((MM K).cls 1)) := He.glo_ok T.KX T.G (T.c.t.d.fact 28 (f := .glo "Mill") rfl)
theorem Txt.cls1 (T : Txt w K mg base h) : ClsOk K (MM K) 1 where
  cl := He.cls_ok (T.c.t.d.fact 29 (f := .cls "Mill") rfl)
  no := fun f hf => by
    have hf2 : f ∈ (["sill", "water", "takes", "fall"] : List Str) := hf
    simp only [List.mem_cons, List.not_mem_nil, or_false] at hf2
    rcases hf2 with rfl | rfl | rfl | rfl
    · exact He.noat_ok (T.c.t.d.fact 30 (f := .noat "Mill" "sill") rfl)
    · exact He.noat_ok (T.c.t.d.fact 31 (f := .noat "Mill" "water") rfl)
    · exact He.noat_ok (T.c.t.d.fact 32 (f := .noat "Mill" "takes") rfl)
    · exact He.noat_ok (T.c.t.d.fact 33 (f := .noat "Mill" "fall") rfl)
  nd := by show (["sill", "water", "takes", "fall"] : List Str).Nodup; decide +kernel
  few := by show (["sill", "water", "takes", "fall"] : List Str).length < 1000; decide
theorem mk_Mill (T : Txt w K mg base h) : Mk K ((MM K).cls 1) (He.fAd K ("Mill", some "__init__")) := He.mkr_ok (T.c.t.d.fact 34 (f := .mkr "Mill") rfl)
theorem me_Mill_filled (T : Txt w K mg base h) : Meth K ((MM K).cls 1) "filled" (He.fAd K ("Mill", some "filled")) := He.meth_ok (T.c.t.d.fact 35 (f := .meth "Mill" "filled") rfl)
theorem me_Mill_key (T : Txt w K mg base h) : Meth K ((MM K).cls 1) "key" (He.fAd K ("Mill", some "key")) := He.meth_ok (T.c.t.d.fact 36 (f := .meth "Mill" "key") rfl)
theorem me_Mill_can_run (T : Txt w K mg base h) : Meth K ((MM K).cls 1) "can_run" (He.fAd K ("Mill", some "can_run")) := He.meth_ok (T.c.t.d.fact 37 (f := .meth "Mill" "can_run") rfl)
theorem me_Mill_hours (T : Txt w K mg base h) : Meth K ((MM K).cls 1) "hours" (He.fAd K ("Mill", some "hours")) := He.meth_ok (T.c.t.d.fact 38 (f := .meth "Mill" "hours") rfl)
theorem me_Mill_worst (T : Txt w K mg base h) : Meth K ((MM K).cls 1) "worst" (He.fAd K ("Mill", some "worst")) := He.meth_ok (T.c.t.d.fact 39 (f := .meth "Mill" "worst") rfl)
theorem me_Mill_year (T : Txt w K mg base h) : Meth K ((MM K).cls 1) "year" (He.fAd K ("Mill", some "year")) := He.meth_ok (T.c.t.d.fact 40 (f := .meth "Mill" "year") rfl)
theorem ge_BadSize (T : Txt w K mg base h) : mg "BadSize" = some (.ref ((MM K).exc 1)) := He.glo_ok T.KX T.G (T.c.t.d.fact 41 (f := .glo "BadSize") rfl)
theorem Txt.exc_BadSize (T : Txt w K mg base h) : ExcOk K mg (MM K) 1 "BadSize" := by
  obtain ⟨a, b, c, d⟩ := He.exc_ok (T.c.t.d.fact 42 (f := .exc "BadSize") rfl)
  exact ⟨He.glo_ok T.KX T.G (T.c.t.d.fact 41 (f := .glo "BadSize") rfl), a, b, c, d⟩
theorem ge_BadPlan (T : Txt w K mg base h) : mg "BadPlan" = some (.ref ((MM K).exc 2)) := He.glo_ok T.KX T.G (T.c.t.d.fact 43 (f := .glo "BadPlan") rfl)
theorem Txt.exc_BadPlan (T : Txt w K mg base h) : ExcOk K mg (MM K) 2 "BadPlan" := by
  obtain ⟨a, b, c, d⟩ := He.exc_ok (T.c.t.d.fact 44 (f := .exc "BadPlan") rfl)
  exact ⟨He.glo_ok T.KX T.G (T.c.t.d.fact 43 (f := .glo "BadPlan") rfl), a, b, c, d⟩
theorem ge_NoSuch (T : Txt w K mg base h) : mg "NoSuch" = some (.ref ((MM K).exc 3)) := He.glo_ok T.KX T.G (T.c.t.d.fact 45 (f := .glo "NoSuch") rfl)
theorem Txt.exc_NoSuch (T : Txt w K mg base h) : ExcOk K mg (MM K) 3 "NoSuch" := by
  obtain ⟨a, b, c, d⟩ := He.exc_ok (T.c.t.d.fact 46 (f := .exc "NoSuch") rfl)
  exact ⟨He.glo_ok T.KX T.G (T.c.t.d.fact 45 (f := .glo "NoSuch") rfl), a, b, c, d⟩
theorem ge_NoRoom (T : Txt w K mg base h) : mg "NoRoom" = some (.ref ((MM K).exc 4)) := He.glo_ok T.KX T.G (T.c.t.d.fact 47 (f := .glo "NoRoom") rfl)
theorem Txt.exc_NoRoom (T : Txt w K mg base h) : ExcOk K mg (MM K) 4 "NoRoom" := by
  obtain ⟨a, b, c, d⟩ := He.exc_ok (T.c.t.d.fact 48 (f := .exc "NoRoom") rfl)
  exact ⟨He.glo_ok T.KX T.G (T.c.t.d.fact 47 (f := .glo "NoRoom") rfl), a, b, c, d⟩
theorem ge_NoWay (T : Txt w K mg base h) : mg "NoWay" = some (.ref ((MM K).exc 5)) := He.glo_ok T.KX T.G (T.c.t.d.fact 49 (f := .glo "NoWay") rfl)
theorem Txt.exc_NoWay (T : Txt w K mg base h) : ExcOk K mg (MM K) 5 "NoWay" := by
  obtain ⟨a, b, c, d⟩ := He.exc_ok (T.c.t.d.fact 50 (f := .exc "NoWay") rfl)
  exact ⟨He.glo_ok T.KX T.G (T.c.t.d.fact 49 (f := .glo "NoWay") rfl), a, b, c, d⟩
theorem ge_Short (T : Txt w K mg base h) : mg "Short" = some (.ref ((MM K).exc 6)) := He.glo_ok T.KX T.G (T.c.t.d.fact 51 (f := .glo "Short") rfl)
theorem Txt.exc_Short (T : Txt w K mg base h) : ExcOk K mg (MM K) 6 "Short" := by
  obtain ⟨a, b, c, d⟩ := He.exc_ok (T.c.t.d.fact 52 (f := .exc "Short") rfl)
  exact ⟨He.glo_ok T.KX T.G (T.c.t.d.fact 51 (f := .glo "Short") rfl), a, b, c, d⟩
theorem ge_BadText (T : Txt w K mg base h) : mg "BadText" = some (.ref ((MM K).exc 7)) := He.glo_ok T.KX T.G (T.c.t.d.fact 53 (f := .glo "BadText") rfl)
theorem ge_BadDeed (T : Txt w K mg base h) : mg "BadDeed" = some (.ref ((MM K).exc 8)) := He.glo_ok T.KX T.G (T.c.t.d.fact 54 (f := .glo "BadDeed") rfl)
theorem Txt.exc_BadDeed (T : Txt w K mg base h) : ExcOk K mg (MM K) 8 "BadDeed" := by
  obtain ⟨a, b, c, d⟩ := He.exc_ok (T.c.t.d.fact 55 (f := .exc "BadDeed") rfl)
  exact ⟨He.glo_ok T.KX T.G (T.c.t.d.fact 54 (f := .glo "BadDeed") rfl), a, b, c, d⟩
theorem Txt.f_abs (T : Txt w K mg base h) : mg "abs" = none := He.free_ok T.KX T.G (T.c.t.d.fact 120 (f := .free "abs") rfl)
theorem Txt.f_any (T : Txt w K mg base h) : mg "any" = none := He.free_ok T.KX T.G (T.c.t.d.fact 121 (f := .free "any") rfl)
theorem Txt.f_enumerate (T : Txt w K mg base h) : mg "enumerate" = none := He.free_ok T.KX T.G (T.c.t.d.fact 122 (f := .free "enumerate") rfl)
theorem Txt.f_int (T : Txt w K mg base h) : mg "int" = none := He.free_ok T.KX T.G (T.c.t.d.fact 123 (f := .free "int") rfl)
theorem Txt.f_len (T : Txt w K mg base h) : mg "len" = none := He.free_ok T.KX T.G (T.c.t.d.fact 124 (f := .free "len") rfl)
theorem Txt.f_list (T : Txt w K mg base h) : mg "list" = none := He.free_ok T.KX T.G (T.c.t.d.fact 125 (f := .free "list") rfl)
theorem Txt.f_max (T : Txt w K mg base h) : mg "max" = none := He.free_ok T.KX T.G (T.c.t.d.fact 126 (f := .free "max") rfl)
theorem Txt.f_min (T : Txt w K mg base h) : mg "min" = none := He.free_ok T.KX T.G (T.c.t.d.fact 127 (f := .free "min") rfl)
theorem Txt.f_range (T : Txt w K mg base h) : mg "range" = none := He.free_ok T.KX T.G (T.c.t.d.fact 128 (f := .free "range") rfl)
theorem Txt.f_sum (T : Txt w K mg base h) : mg "sum" = none := He.free_ok T.KX T.G (T.c.t.d.fact 129 (f := .free "sum") rfl)
theorem Txt.f_tuple (T : Txt w K mg base h) : mg "tuple" = none := He.free_ok T.KX T.G (T.c.t.d.fact 130 (f := .free "tuple") rfl)
theorem Txt.f_zip (T : Txt w K mg base h) : mg "zip" = none := He.free_ok T.KX T.G (T.c.t.d.fact 131 (f := .free "zip") rfl)
theorem Txt.tb (T : Txt w K mg base h) (p : He.Defn) (hp : p ∈ tf) : LamX.TabB base mg (He.cT K p).1 (He.cT K p).2 := T.TB p hp
noncomputable def fd_Mill_init (T : Txt w K mg base h) : FuncData := Classical.choose (T.c.t.d.def_ 0 (d := d_Mill_init) rfl)
theorem F_Mill_init (T : Txt w K mg base h) : Fun K "__init__" "Mill.__init__" s_Mill_init (He.fAd K ("Mill", some "__init__")) (fd_Mill_init T) := funOfD (Classical.choose_spec (T.c.t.d.def_ 0 (d := d_Mill_init) rfl))
theorem b_Mill_init (T : Txt w K mg base h) : L2.Binds K (fd_Mill_init T) ["self", "sill", "water", "takes", "fall"] [] := (F_Mill_init T).binds (ps := ["self", "sill", "water", "takes", "fall"]) fun _ _ _ _ _ _ us hl => match us, hl with | [_, _, _, _, _], _ => rfl
theorem k_Mill_init (T : Txt w K mg base h) : PySem.W.keepIn K (.ref (He.fAd K ("Mill", some "__init__"))) = true := (F_Mill_init T).kp
theorem sc_Mill_init : FnScope ["self", "sill", "water", "takes", "fall"] ["self", "sill", "water", "takes", "fall"] (defScope s_Mill_init) := ⟨rfl, rfl, rfl, by decide +kernel, rfl, by decide +kernel, by decide +kernel⟩
noncomputable def fd_Mill_filled (T : Txt w K mg base h) : FuncData := Classical.choose (T.c.t.d.def_ 1 (d := d_Mill_filled) rfl)
theorem F_Mill_filled (T : Txt w K mg base h) : Fun K "filled" "Mill.filled" s_Mill_filled (He.fAd K ("Mill", some "filled")) (fd_Mill_filled T) := funOfD (Classical.choose_spec (T.c.t.d.def_ 1 (d := d_Mill_filled) rfl))
theorem b_Mill_filled (T : Txt w K mg base h) : L2.Binds K (fd_Mill_filled T) ["self", "height"] [] := (F_Mill_filled T).binds (ps := ["self", "height"]) fun _ _ _ _ _ _ us hl => match us, hl with | [_, _], _ => rfl
theorem k_Mill_filled (T : Txt w K mg base h) : PySem.W.keepIn K (.ref (He.fAd K ("Mill", some "filled"))) = true := (F_Mill_filled T).kp
theorem sc_Mill_filled : FnScope ["self", "height"] ["self", "height"] (defScope s_Mill_filled) := ⟨rfl, rfl, rfl, by decide +kernel, rfl, by decide +kernel, by decide +kernel⟩
noncomputable def fd_Mill_key (T : Txt w K mg base h) : FuncData := Classical.choose (T.c.t.d.def_ 2 (d := d_Mill_key) rfl)
theorem F_Mill_key (T : Txt w K mg base h) : Fun K "key" "Mill.key" s_Mill_key (He.fAd K ("Mill", some "key")) (fd_Mill_key T) := funOfD (Classical.choose_spec (T.c.t.d.def_ 2 (d := d_Mill_key) rfl))
theorem b_Mill_key (T : Txt w K mg base h) : L2.Binds K (fd_Mill_key T) ["self"] [] := (F_Mill_key T).binds (ps := ["self"]) fun _ _ _ _ _ _ us hl => match us, hl with | [_], _ => rfl
theorem k_Mill_key (T : Txt w K mg base h) : PySem.W.keepIn K (.ref (He.fAd K ("Mill", some "key"))) = true := (F_Mill_key T).kp
theorem sc_Mill_key : FnScope ["self"] ["self"] (defScope s_Mill_key) := ⟨rfl, rfl, rfl, by decide +kernel, rfl, by decide +kernel, by decide +kernel⟩
noncomputable def fd_Tide_init (T : Txt w K mg base h) : FuncData := Classical.choose (T.c.t.d.def_ 3 (d := d_Tide_init) rfl)
theorem F_Tide_init (T : Txt w K mg base h) : Fun K "__init__" "Tide.__init__" s_Tide_init (He.fAd K ("Tide", some "__init__")) (fd_Tide_init T) := funOfD (Classical.choose_spec (T.c.t.d.def_ 3 (d := d_Tide_init) rfl))
theorem b_Tide_init (T : Txt w K mg base h) : L2.Binds K (fd_Tide_init T) ["self", "first", "between", "spring", "neap", "days"] [] := (F_Tide_init T).binds (ps := ["self", "first", "between", "spring", "neap", "days"]) fun _ _ _ _ _ _ us hl => match us, hl with | [_, _, _, _, _, _], _ => rfl
theorem k_Tide_init (T : Txt w K mg base h) : PySem.W.keepIn K (.ref (He.fAd K ("Tide", some "__init__"))) = true := (F_Tide_init T).kp
theorem sc_Tide_init : FnScope ["self", "first", "between", "spring", "neap", "days"] ["self", "first", "between", "spring", "neap", "days"] (defScope s_Tide_init) := ⟨rfl, rfl, rfl, by decide +kernel, rfl, by decide +kernel, by decide +kernel⟩
noncomputable def fd_Tide_high (T : Txt w K mg base h) : FuncData := Classical.choose (T.c.t.d.def_ 4 (d := d_Tide_high) rfl)
theorem F_Tide_high (T : Txt w K mg base h) : Fun K "high" "Tide.high" s_Tide_high (He.fAd K ("Tide", some "high")) (fd_Tide_high T) := funOfD (Classical.choose_spec (T.c.t.d.def_ 4 (d := d_Tide_high) rfl))
theorem b_Tide_high (T : Txt w K mg base h) : L2.Binds K (fd_Tide_high T) ["self", "number"] [] := (F_Tide_high T).binds (ps := ["self", "number"]) fun _ _ _ _ _ _ us hl => match us, hl with | [_, _], _ => rfl
theorem k_Tide_high (T : Txt w K mg base h) : PySem.W.keepIn K (.ref (He.fAd K ("Tide", some "high"))) = true := (F_Tide_high T).kp
theorem sc_Tide_high : FnScope ["self", "number"] ["self", "number"] (defScope s_Tide_high) := ⟨rfl, rfl, rfl, by decide +kernel, rfl, by decide +kernel, by decide +kernel⟩
noncomputable def fd_Tide_next_high (T : Txt w K mg base h) : FuncData := Classical.choose (T.c.t.d.def_ 5 (d := d_Tide_next_high) rfl)
theorem F_Tide_next_high (T : Txt w K mg base h) : Fun K "next_high" "Tide.next_high" s_Tide_next_high (He.fAd K ("Tide", some "next_high")) (fd_Tide_next_high T) := funOfD (Classical.choose_spec (T.c.t.d.def_ 5 (d := d_Tide_next_high) rfl))
theorem b_Tide_next_high (T : Txt w K mg base h) : L2.Binds K (fd_Tide_next_high T) ["self", "minute"] [] := (F_Tide_next_high T).binds (ps := ["self", "minute"]) fun _ _ _ _ _ _ us hl => match us, hl with | [_, _], _ => rfl
theorem k_Tide_next_high (T : Txt w K mg base h) : PySem.W.keepIn K (.ref (He.fAd K ("Tide", some "next_high"))) = true := (F_Tide_next_high T).kp
theorem sc_Tide_next_high : FnScope ["self", "minute", "number"] ["self", "minute"] (defScope s_Tide_next_high) := ⟨rfl, rfl, rfl, by decide +kernel, rfl, by decide +kernel, by decide +kernel⟩
noncomputable def fd_Tide_on_day (T : Txt w K mg base h) : FuncData := Classical.choose (T.c.t.d.def_ 6 (d := d_Tide_on_day) rfl)
theorem F_Tide_on_day (T : Txt w K mg base h) : Fun K "on_day" "Tide.on_day" s_Tide_on_day (He.fAd K ("Tide", some "on_day")) (fd_Tide_on_day T) := funOfD (Classical.choose_spec (T.c.t.d.def_ 6 (d := d_Tide_on_day) rfl))
theorem b_Tide_on_day (T : Txt w K mg base h) : L2.Binds K (fd_Tide_on_day T) ["self", "day"] [] := (F_Tide_on_day T).binds (ps := ["self", "day"]) fun _ _ _ _ _ _ us hl => match us, hl with | [_, _], _ => rfl
theorem k_Tide_on_day (T : Txt w K mg base h) : PySem.W.keepIn K (.ref (He.fAd K ("Tide", some "on_day"))) = true := (F_Tide_on_day T).kp
theorem sc_Tide_on_day : FnScope ["self", "day", "number", "minute", "found"] ["self", "day"] (defScope s_Tide_on_day) := ⟨rfl, rfl, rfl, by decide +kernel, rfl, by decide +kernel, by decide +kernel⟩
noncomputable def fd_Tide_best_days (T : Txt w K mg base h) : FuncData := Classical.choose (T.c.t.d.def_ 7 (d := d_Tide_best_days) rfl)
theorem F_Tide_best_days (T : Txt w K mg base h) : Fun K "best_days" "Tide.best_days" s_Tide_best_days (He.fAd K ("Tide", some "best_days")) (fd_Tide_best_days T) := funOfD (Classical.choose_spec (T.c.t.d.def_ 7 (d := d_Tide_best_days) rfl))
theorem b_Tide_best_days (T : Txt w K mg base h) : L2.Binds K (fd_Tide_best_days T) ["self", "days", "light", "dark"] [] := (F_Tide_best_days T).binds (ps := ["self", "days", "light", "dark"]) fun _ _ _ _ _ _ us hl => match us, hl with | [_, _, _, _], _ => rfl
theorem k_Tide_best_days (T : Txt w K mg base h) : PySem.W.keepIn K (.ref (He.fAd K ("Tide", some "best_days"))) = true := (F_Tide_best_days T).kp
theorem sc_Tide_best_days : FnScope ["self", "days", "light", "dark", "counts", "day", "minute", "many"] ["self", "days", "light", "dark"] (defScope s_Tide_best_days) := ⟨rfl, rfl, rfl, by decide +kernel, rfl, by decide +kernel, by decide +kernel⟩
noncomputable def fd_Tide_height (T : Txt w K mg base h) : FuncData := Classical.choose (T.c.t.d.def_ 8 (d := d_Tide_height) rfl)
theorem F_Tide_height (T : Txt w K mg base h) : Fun K "height" "Tide.height" s_Tide_height (He.fAd K ("Tide", some "height")) (fd_Tide_height T) := funOfD (Classical.choose_spec (T.c.t.d.def_ 8 (d := d_Tide_height) rfl))
theorem b_Tide_height (T : Txt w K mg base h) : L2.Binds K (fd_Tide_height T) ["self", "number"] [] := (F_Tide_height T).binds (ps := ["self", "number"]) fun _ _ _ _ _ _ us hl => match us, hl with | [_, _], _ => rfl
theorem k_Tide_height (T : Txt w K mg base h) : PySem.W.keepIn K (.ref (He.fAd K ("Tide", some "height"))) = true := (F_Tide_height T).kp
theorem sc_Tide_height : FnScope ["self", "number", "day", "gap"] ["self", "number"] (defScope s_Tide_height) := ⟨rfl, rfl, rfl, by decide +kernel, rfl, by decide +kernel, by decide +kernel⟩
noncomputable def fd_Tide_key (T : Txt w K mg base h) : FuncData := Classical.choose (T.c.t.d.def_ 9 (d := d_Tide_key) rfl)
theorem F_Tide_key (T : Txt w K mg base h) : Fun K "key" "Tide.key" s_Tide_key (He.fAd K ("Tide", some "key")) (fd_Tide_key T) := funOfD (Classical.choose_spec (T.c.t.d.def_ 9 (d := d_Tide_key) rfl))
theorem b_Tide_key (T : Txt w K mg base h) : L2.Binds K (fd_Tide_key T) ["self"] [] := (F_Tide_key T).binds (ps := ["self"]) fun _ _ _ _ _ _ us hl => match us, hl with | [_], _ => rfl
theorem k_Tide_key (T : Txt w K mg base h) : PySem.W.keepIn K (.ref (He.fAd K ("Tide", some "key"))) = true := (F_Tide_key T).kp
theorem sc_Tide_key : FnScope ["self"] ["self"] (defScope s_Tide_key) := ⟨rfl, rfl, rfl, by decide +kernel, rfl, by decide +kernel, by decide +kernel⟩
noncomputable def fd_Tide_level (T : Txt w K mg base h) : FuncData := Classical.choose (T.c.t.d.def_ 10 (d := d_Tide_level) rfl)
theorem F_Tide_level (T : Txt w K mg base h) : Fun K "level" "Tide.level" s_Tide_level (He.fAd K ("Tide", some "level")) (fd_Tide_level T) := funOfD (Classical.choose_spec (T.c.t.d.def_ 10 (d := d_Tide_level) rfl))
theorem b_Tide_level (T : Txt w K mg base h) : L2.Binds K (fd_Tide_level T) ["self", "minute"] [] := (F_Tide_level T).binds (ps := ["self", "minute"]) fun _ _ _ _ _ _ us hl => match us, hl with | [_, _], _ => rfl
theorem k_Tide_level (T : Txt w K mg base h) : PySem.W.keepIn K (.ref (He.fAd K ("Tide", some "level"))) = true := (F_Tide_level T).kp
theorem sc_Tide_level : FnScope ["self", "minute", "number", "after", "half", "since"] ["self", "minute"] (defScope s_Tide_level) := ⟨rfl, rfl, rfl, by decide +kernel, rfl, by decide +kernel, by decide +kernel⟩
noncomputable def fd_law_height (T : Txt w K mg base h) : FuncData := Classical.choose (T.c.t.d.def_ 11 (d := d_law_height) rfl)
theorem F_law_height (T : Txt w K mg base h) : Fun K "_law_height" "_law_height" s_law_height (He.fAd K ("_law_height", none)) (fd_law_height T) := funOfD (Classical.choose_spec (T.c.t.d.def_ 11 (d := d_law_height) rfl))
theorem b_law_height (T : Txt w K mg base h) : L2.Binds K (fd_law_height T) ["row", "number"] [] := (F_law_height T).binds (ps := ["row", "number"]) fun _ _ _ _ _ _ us hl => match us, hl with | [_, _], _ => rfl
theorem k_law_height (T : Txt w K mg base h) : PySem.W.keepIn K (.ref (He.fAd K ("_law_height", none))) = true := (F_law_height T).kp
theorem sc_law_height : FnScope ["row", "number", "first", "between", "spring", "neap", "days", "day"] ["row", "number"] (defScope s_law_height) := ⟨rfl, rfl, rfl, by decide +kernel, rfl, by decide +kernel, by decide +kernel⟩
noncomputable def fd_law_level (T : Txt w K mg base h) : FuncData := Classical.choose (T.c.t.d.def_ 12 (d := d_law_level) rfl)
theorem F_law_level (T : Txt w K mg base h) : Fun K "_law_level" "_law_level" s_law_level (He.fAd K ("_law_level", none)) (fd_law_level T) := funOfD (Classical.choose_spec (T.c.t.d.def_ 12 (d := d_law_level) rfl))
theorem b_law_level (T : Txt w K mg base h) : L2.Binds K (fd_law_level T) ["row", "minute"] [] := (F_law_level T).binds (ps := ["row", "minute"]) fun _ _ _ _ _ _ us hl => match us, hl with | [_, _], _ => rfl
theorem k_law_level (T : Txt w K mg base h) : PySem.W.keepIn K (.ref (He.fAd K ("_law_level", none))) = true := (F_law_level T).kp
theorem sc_law_level : FnScope ["row", "minute", "first", "between", "half", "best", "before", "k", "last", "since", "gap"] ["row", "minute"] (defScope s_law_level) := ⟨rfl, rfl, rfl, by decide +kernel, rfl, by decide +kernel, by decide +kernel⟩
noncomputable def fd_Mill_can_run (T : Txt w K mg base h) : FuncData := Classical.choose (T.c.t.d.def_ 13 (d := d_Mill_can_run) rfl)
theorem F_Mill_can_run (T : Txt w K mg base h) : Fun K "can_run" "Mill.can_run" s_Mill_can_run (He.fAd K ("Mill", some "can_run")) (fd_Mill_can_run T) := funOfD (Classical.choose_spec (T.c.t.d.def_ 13 (d := d_Mill_can_run) rfl))
theorem b_Mill_can_run (T : Txt w K mg base h) : L2.Binds K (fd_Mill_can_run T) ["self", "tide", "number", "minute", "hours"] [] := (F_Mill_can_run T).binds (ps := ["self", "tide", "number", "minute", "hours"]) fun _ _ _ _ _ _ us hl => match us, hl with | [_, _, _, _, _], _ => rfl
theorem k_Mill_can_run (T : Txt w K mg base h) : PySem.W.keepIn K (.ref (He.fAd K ("Mill", some "can_run"))) = true := (F_Mill_can_run T).kp
theorem sc_Mill_can_run : FnScope ["self", "tide", "number", "minute", "hours", "left"] ["self", "tide", "number", "minute", "hours"] (defScope s_Mill_can_run) := ⟨rfl, rfl, rfl, by decide +kernel, rfl, by decide +kernel, by decide +kernel⟩
noncomputable def fd_Mill_hours (T : Txt w K mg base h) : FuncData := Classical.choose (T.c.t.d.def_ 14 (d := d_Mill_hours) rfl)
theorem F_Mill_hours (T : Txt w K mg base h) : Fun K "hours" "Mill.hours" s_Mill_hours (He.fAd K ("Mill", some "hours")) (fd_Mill_hours T) := funOfD (Classical.choose_spec (T.c.t.d.def_ 14 (d := d_Mill_hours) rfl))
theorem b_Mill_hours (T : Txt w K mg base h) : L2.Binds K (fd_Mill_hours T) ["self", "tide", "number"] [] := (F_Mill_hours T).binds (ps := ["self", "tide", "number"]) fun _ _ _ _ _ _ us hl => match us, hl with | [_, _, _], _ => rfl
theorem k_Mill_hours (T : Txt w K mg base h) : PySem.W.keepIn K (.ref (He.fAd K ("Mill", some "hours"))) = true := (F_Mill_hours T).kp
theorem sc_Mill_hours : FnScope ["self", "tide", "number", "most", "found", "hour", "minute"] ["self", "tide", "number"] (defScope s_Mill_hours) := ⟨rfl, rfl, rfl, by decide +kernel, rfl, by decide +kernel, by decide +kernel⟩
noncomputable def fd_Mill_worst (T : Txt w K mg base h) : FuncData := Classical.choose (T.c.t.d.def_ 15 (d := d_Mill_worst) rfl)
theorem F_Mill_worst (T : Txt w K mg base h) : Fun K "worst" "Mill.worst" s_Mill_worst (He.fAd K ("Mill", some "worst")) (fd_Mill_worst T) := funOfD (Classical.choose_spec (T.c.t.d.def_ 15 (d := d_Mill_worst) rfl))
theorem b_Mill_worst (T : Txt w K mg base h) : L2.Binds K (fd_Mill_worst T) ["self", "tide", "tides"] [] := (F_Mill_worst T).binds (ps := ["self", "tide", "tides"]) fun _ _ _ _ _ _ us hl => match us, hl with | [_, _, _], _ => rfl
theorem k_Mill_worst (T : Txt w K mg base h) : PySem.W.keepIn K (.ref (He.fAd K ("Mill", some "worst"))) = true := (F_Mill_worst T).kp
theorem sc_Mill_worst : FnScope ["self", "tide", "tides", "rows", "number"] ["self", "tide", "tides"] (defScope s_Mill_worst) := ⟨rfl, rfl, rfl, by decide +kernel, rfl, by decide +kernel, by decide +kernel⟩
noncomputable def fd_Mill_year (T : Txt w K mg base h) : FuncData := Classical.choose (T.c.t.d.def_ 16 (d := d_Mill_year) rfl)
theorem F_Mill_year (T : Txt w K mg base h) : Fun K "year" "Mill.year" s_Mill_year (He.fAd K ("Mill", some "year")) (fd_Mill_year T) := funOfD (Classical.choose_spec (T.c.t.d.def_ 16 (d := d_Mill_year) rfl))
theorem b_Mill_year (T : Txt w K mg base h) : L2.Binds K (fd_Mill_year T) ["self", "tide", "tides"] [] := (F_Mill_year T).binds (ps := ["self", "tide", "tides"]) fun _ _ _ _ _ _ us hl => match us, hl with | [_, _, _], _ => rfl
theorem k_Mill_year (T : Txt w K mg base h) : PySem.W.keepIn K (.ref (He.fAd K ("Mill", some "year"))) = true := (F_Mill_year T).kp
theorem sc_Mill_year : FnScope ["self", "tide", "tides", "number"] ["self", "tide", "tides"] (defScope s_Mill_year) := ⟨rfl, rfl, rfl, by decide +kernel, rfl, by decide +kernel, by decide +kernel⟩
noncomputable def fd_law_told (T : Txt w K mg base h) : FuncData := Classical.choose (T.c.t.d.def_ 17 (d := d_law_told) rfl)
theorem F_law_told (T : Txt w K mg base h) : Fun K "_law_told" "_law_told" s_law_told (He.fAd K ("_law_told", none)) (fd_law_told T) := funOfD (Classical.choose_spec (T.c.t.d.def_ 17 (d := d_law_told) rfl))
theorem b_law_told (T : Txt w K mg base h) : L2.Binds K (fd_law_told T) ["what"] [] := (F_law_told T).binds (ps := ["what"]) fun _ _ _ _ _ _ us hl => match us, hl with | [_], _ => rfl
theorem k_law_told (T : Txt w K mg base h) : PySem.W.keepIn K (.ref (He.fAd K ("_law_told", none))) = true := (F_law_told T).kp
theorem sc_law_told : FnScope ["what"] ["what"] (defScope s_law_told) := ⟨rfl, rfl, rfl, by decide +kernel, rfl, by decide +kernel, by decide +kernel⟩
noncomputable def fd_later_each_day (T : Txt w K mg base h) : FuncData := Classical.choose (T.c.t.d.def_ 18 (d := d_later_each_day) rfl)
theorem F_later_each_day (T : Txt w K mg base h) : Fun K "later_each_day" "later_each_day" s_later_each_day (He.fAd K ("later_each_day", none)) (fd_later_each_day T) := funOfD (Classical.choose_spec (T.c.t.d.def_ 18 (d := d_later_each_day) rfl))
theorem b_later_each_day (T : Txt w K mg base h) : L2.Binds K (fd_later_each_day T) ["between"] [] := (F_later_each_day T).binds (ps := ["between"]) fun _ _ _ _ _ _ us hl => match us, hl with | [_], _ => rfl
theorem k_later_each_day (T : Txt w K mg base h) : PySem.W.keepIn K (.ref (He.fAd K ("later_each_day", none))) = true := (F_later_each_day T).kp
theorem sc_later_each_day : FnScope ["between"] ["between"] (defScope s_later_each_day) := ⟨rfl, rfl, rfl, by decide +kernel, rfl, by decide +kernel, by decide +kernel⟩
noncomputable def fd_read_height (T : Txt w K mg base h) : FuncData := Classical.choose (T.c.t.d.def_ 19 (d := d_read_height) rfl)
theorem F_read_height (T : Txt w K mg base h) : Fun K "read_height" "read_height" s_read_height (He.fAd K ("read_height", none)) (fd_read_height T) := funOfD (Classical.choose_spec (T.c.t.d.def_ 19 (d := d_read_height) rfl))
theorem b_read_height (T : Txt w K mg base h) : L2.Binds K (fd_read_height T) ["marks", "place"] [] := (F_read_height T).binds (ps := ["marks", "place"]) fun _ _ _ _ _ _ us hl => match us, hl with | [_, _], _ => rfl
theorem k_read_height (T : Txt w K mg base h) : PySem.W.keepIn K (.ref (He.fAd K ("read_height", none))) = true := (F_read_height T).kp
theorem sc_read_height : FnScope ["marks", "place", "k", "low", "one", "high", "other"] ["marks", "place"] (defScope s_read_height) := ⟨rfl, rfl, rfl, by decide +kernel, rfl, by decide +kernel, by decide +kernel⟩
noncomputable def fd_twelfths (T : Txt w K mg base h) : FuncData := Classical.choose (T.c.t.d.def_ 20 (d := d_twelfths) rfl)
theorem F_twelfths (T : Txt w K mg base h) : Fun K "twelfths" "twelfths" s_twelfths (He.fAd K ("twelfths", none)) (fd_twelfths T) := funOfD (Classical.choose_spec (T.c.t.d.def_ 20 (d := d_twelfths) rfl))
theorem b_twelfths (T : Txt w K mg base h) : L2.Binds K (fd_twelfths T) ["range_of", "hour"] [] := (F_twelfths T).binds (ps := ["range_of", "hour"]) fun _ _ _ _ _ _ us hl => match us, hl with | [_, _], _ => rfl
theorem k_twelfths (T : Txt w K mg base h) : PySem.W.keepIn K (.ref (He.fAd K ("twelfths", none))) = true := (F_twelfths T).kp
theorem sc_twelfths : FnScope ["range_of", "hour"] ["range_of", "hour"] (defScope s_twelfths) := ⟨rfl, rfl, rfl, by decide +kernel, rfl, by decide +kernel, by decide +kernel⟩
noncomputable def fd_law_cases1 (T : Txt w K mg base h) : FuncData := Classical.choose (T.c.t.d.def_ 21 (d := d_law_cases1) rfl)
theorem F_law_cases1 (T : Txt w K mg base h) : Fun K "_law_cases1" "_law_cases1" s_law_cases1 (He.fAd K ("_law_cases1", none)) (fd_law_cases1 T) := funOfD (Classical.choose_spec (T.c.t.d.def_ 21 (d := d_law_cases1) rfl))
theorem b_law_cases1 (T : Txt w K mg base h) : L2.Binds K (fd_law_cases1 T) [] [] := (F_law_cases1 T).binds (ps := []) fun _ _ _ _ _ _ us hl => match us, hl with | [], _ => rfl
theorem k_law_cases1 (T : Txt w K mg base h) : PySem.W.keepIn K (.ref (He.fAd K ("_law_cases1", none))) = true := (F_law_cases1 T).kp
theorem sc_law_cases1 : FnScope [] [] (defScope s_law_cases1) := ⟨rfl, rfl, rfl, by decide +kernel, rfl, by decide +kernel, by decide +kernel⟩
noncomputable def fd_law_roll (T : Txt w K mg base h) : FuncData := Classical.choose (T.c.t.d.def_ 22 (d := d_law_roll) rfl)
theorem F_law_roll (T : Txt w K mg base h) : Fun K "_law_roll" "_law_roll" s_law_roll (He.fAd K ("_law_roll", none)) (fd_law_roll T) := funOfD (Classical.choose_spec (T.c.t.d.def_ 22 (d := d_law_roll) rfl))
theorem b_law_roll (T : Txt w K mg base h) : L2.Binds K (fd_law_roll T) ["dice", "many"] [] := (F_law_roll T).binds (ps := ["dice", "many"]) fun _ _ _ _ _ _ us hl => match us, hl with | [_, _], _ => rfl
theorem k_law_roll (T : Txt w K mg base h) : PySem.W.keepIn K (.ref (He.fAd K ("_law_roll", none))) = true := (F_law_roll T).kp
theorem sc_law_roll : FnScope ["dice", "many", "found"] ["dice", "many"] (defScope s_law_roll) := ⟨rfl, rfl, rfl, by decide +kernel, rfl, by decide +kernel, by decide +kernel⟩
noncomputable def fd_law_rest2 (T : Txt w K mg base h) : FuncData := Classical.choose (T.c.t.d.def_ 23 (d := d_law_rest2) rfl)
theorem F_law_rest2 (T : Txt w K mg base h) : Fun K "_law_rest2" "_law_rest2" s_law_rest2 (He.fAd K ("_law_rest2", none)) (fd_law_rest2 T) := funOfD (Classical.choose_spec (T.c.t.d.def_ 23 (d := d_law_rest2) rfl))
theorem b_law_rest2 (T : Txt w K mg base h) : L2.Binds K (fd_law_rest2 T) ["dice", "tide", "mill"] [] := (F_law_rest2 T).binds (ps := ["dice", "tide", "mill"]) fun _ _ _ _ _ _ us hl => match us, hl with | [_, _, _], _ => rfl
theorem k_law_rest2 (T : Txt w K mg base h) : PySem.W.keepIn K (.ref (He.fAd K ("_law_rest2", none))) = true := (F_law_rest2 T).kp
theorem sc_law_rest2 : FnScope ["dice", "tide", "mill", "marks", "k", "place", "due", "a", "x", "b", "y"] ["dice", "tide", "mill"] (defScope s_law_rest2) := ⟨rfl, rfl, rfl, by decide +kernel, rfl, by decide +kernel, by decide +kernel⟩
noncomputable def fd_law_rest1 (T : Txt w K mg base h) : FuncData := Classical.choose (T.c.t.d.def_ 24 (d := d_law_rest1) rfl)
theorem F_law_rest1 (T : Txt w K mg base h) : Fun K "_law_rest1" "_law_rest1" s_law_rest1 (He.fAd K ("_law_rest1", none)) (fd_law_rest1 T) := funOfD (Classical.choose_spec (T.c.t.d.def_ 24 (d := d_law_rest1) rfl))
theorem b_law_rest1 (T : Txt w K mg base h) : L2.Binds K (fd_law_rest1 T) ["dice", "row", "tide", "mine", "mill", "high", "runs"] [] := (F_law_rest1 T).binds (ps := ["dice", "row", "tide", "mine", "mill", "high", "runs"]) fun _ _ _ _ _ _ us hl => match us, hl with | [_, _, _, _, _, _, _], _ => rfl
theorem k_law_rest1 (T : Txt w K mg base h) : PySem.W.keepIn K (.ref (He.fAd K ("_law_rest1", none))) = true := (F_law_rest1 T).kp
theorem sc_law_rest1 : FnScope ["dice", "row", "tide", "mine", "mill", "high", "runs", "one", "hour", "pond", "done", "left", "now", "fall", "steps"] ["dice", "row", "tide", "mine", "mill", "high", "runs"] (defScope s_law_rest1) := ⟨rfl, rfl, rfl, by decide +kernel, rfl, by decide +kernel, by decide +kernel⟩
noncomputable def fd_law_dice (T : Txt w K mg base h) : FuncData := Classical.choose (T.c.t.d.def_ 25 (d := d_law_dice) rfl)
theorem F_law_dice (T : Txt w K mg base h) : Fun K "_law_dice" "_law_dice" s_law_dice (He.fAd K ("_law_dice", none)) (fd_law_dice T) := funOfD (Classical.choose_spec (T.c.t.d.def_ 25 (d := d_law_dice) rfl))
theorem b_law_dice (T : Txt w K mg base h) : L2.Binds K (fd_law_dice T) ["cell"] [] := (F_law_dice T).binds (ps := ["cell"]) fun _ _ _ _ _ _ us hl => match us, hl with | [_], _ => rfl
theorem k_law_dice (T : Txt w K mg base h) : PySem.W.keepIn K (.ref (He.fAd K ("_law_dice", none))) = true := (F_law_dice T).kp
theorem sc_law_dice : FnScope ["cell"] ["cell"] (defScope s_law_dice) := ⟨rfl, rfl, rfl, by decide +kernel, rfl, by decide +kernel, by decide +kernel⟩
noncomputable def fd_law_rounds (T : Txt w K mg base h) : FuncData := Classical.choose (T.c.t.d.def_ 26 (d := d_law_rounds) rfl)
theorem F_law_rounds (T : Txt w K mg base h) : Fun K "_law_rounds" "_law_rounds" s_law_rounds (He.fAd K ("_law_rounds", none)) (fd_law_rounds T) := funOfD (Classical.choose_spec (T.c.t.d.def_ 26 (d := d_law_rounds) rfl))
theorem b_law_rounds (T : Txt w K mg base h) : L2.Binds K (fd_law_rounds T) ["script", "most"] [] := (F_law_rounds T).binds (ps := ["script", "most"]) fun _ _ _ _ _ _ us hl => match us, hl with | [_, _], _ => rfl
theorem k_law_rounds (T : Txt w K mg base h) : PySem.W.keepIn K (.ref (He.fAd K ("_law_rounds", none))) = true := (F_law_rounds T).kp
theorem sc_law_rounds : FnScope ["script", "most", "cells", "cell"] ["script", "most"] (defScope s_law_rounds) := ⟨rfl, rfl, rfl, by decide +kernel, rfl, by decide +kernel, by decide +kernel⟩
noncomputable def fd_law (T : Txt w K mg base h) : FuncData := Classical.choose (T.c.t.d.def_ 27 (d := d_law) rfl)
theorem F_law (T : Txt w K mg base h) : Fun K "law" "law" s_law (He.fAd K ("law", none)) (fd_law T) := funOfD (Classical.choose_spec (T.c.t.d.def_ 27 (d := d_law) rfl))
theorem b_law (T : Txt w K mg base h) : L2.Binds K (fd_law T) ["script"] [] := (F_law T).binds (ps := ["script"]) fun _ _ _ _ _ _ us hl => match us, hl with | [_], _ => rfl
theorem k_law (T : Txt w K mg base h) : PySem.W.keepIn K (.ref (He.fAd K ("law", none))) = true := (F_law T).kp
theorem sc_law : FnScope ["script", "dice", "neap", "row", "minute", "later", "some", "day", "highs", "dark", "counts", "one", "mine", "mill", "high", "runs", "tide", "number", "days", "light", "k"] ["script"] (defScope s_law) := ⟨rfl, rfl, rfl, by decide +kernel, rfl, by decide +kernel, by decide +kernel⟩
theorem tabs_Tide_best_days : ((He.cT K ("Tide", some "best_days")).2, ("Tide.best_days.<locals>.<genexpr>" : Str)) ∈ (MM K).tabs := by simp [MM]
theorem tabsu_Tide_best_days (T : Txt w K mg base h) : ∀ p ∈ (MM K).tabs, p.1 = (He.cT K ("Tide", some "best_days")).2 → p.2 = ("Tide.best_days.<locals>.<genexpr>" : Str) := by
  have nd : (tf.map fun p => (He.cT K p).2).Nodup := of_decide_eq_true T.c.more
  simp only [tf, List.map_cons, List.map_nil, List.nodup_cons, List.mem_cons, List.not_mem_nil, or_false, not_or] at nd
  intro p hp e
  simp only [MM, List.mem_cons, List.not_mem_nil, or_false] at hp
  rcases hp with rfl | rfl | rfl | rfl | rfl
  · rfl
  · exact absurd e (by simp_all [eq_comm])
  · exact absurd e (by simp_all [eq_comm])
  · exact absurd e (by simp_all [eq_comm])
  · exact absurd e (by simp_all [eq_comm])
theorem tabs_Mill_year : ((He.cT K ("Mill", some "year")).2, ("Mill.year.<locals>.<genexpr>" : Str)) ∈ (MM K).tabs := by simp [MM]
theorem tabsu_Mill_year (T : Txt w K mg base h) : ∀ p ∈ (MM K).tabs, p.1 = (He.cT K ("Mill", some "year")).2 → p.2 = ("Mill.year.<locals>.<genexpr>" : Str) := by
  have nd : (tf.map fun p => (He.cT K p).2).Nodup := of_decide_eq_true T.c.more
  simp only [tf, List.map_cons, List.map_nil, List.nodup_cons, List.mem_cons, List.not_mem_nil, or_false, not_or] at nd
  intro p hp e
  simp only [MM, List.mem_cons, List.not_mem_nil, or_false] at hp
  rcases hp with rfl | rfl | rfl | rfl | rfl
  · exact absurd e (by simp_all [eq_comm])
  · rfl
  · exact absurd e (by simp_all [eq_comm])
  · exact absurd e (by simp_all [eq_comm])
  · exact absurd e (by simp_all [eq_comm])
theorem tabs_read_height : ((He.cT K ("read_height", none)).2, ("read_height.<locals>.<genexpr>" : Str)) ∈ (MM K).tabs := by simp [MM]
theorem tabsu_read_height (T : Txt w K mg base h) : ∀ p ∈ (MM K).tabs, p.1 = (He.cT K ("read_height", none)).2 → p.2 = ("read_height.<locals>.<genexpr>" : Str) := by
  have nd : (tf.map fun p => (He.cT K p).2).Nodup := of_decide_eq_true T.c.more
  simp only [tf, List.map_cons, List.map_nil, List.nodup_cons, List.mem_cons, List.not_mem_nil, or_false, not_or] at nd
  intro p hp e
  simp only [MM, List.mem_cons, List.not_mem_nil, or_false] at hp
  rcases hp with rfl | rfl | rfl | rfl | rfl
  · exact absurd e (by simp_all [eq_comm])
  · exact absurd e (by simp_all [eq_comm])
  · rfl
  · exact absurd e (by simp_all [eq_comm])
  · exact absurd e (by simp_all [eq_comm])
theorem tabs_law_cases1 : ((He.cT K ("_law_cases1", none)).2, ("_law_cases1.<locals>.<lambda>" : Str)) ∈ (MM K).tabs := by simp [MM]
theorem tabsu_law_cases1 (T : Txt w K mg base h) : ∀ p ∈ (MM K).tabs, p.1 = (He.cT K ("_law_cases1", none)).2 → p.2 = ("_law_cases1.<locals>.<lambda>" : Str) := by
  have nd : (tf.map fun p => (He.cT K p).2).Nodup := of_decide_eq_true T.c.more
  simp only [tf, List.map_cons, List.map_nil, List.nodup_cons, List.mem_cons, List.not_mem_nil, or_false, not_or] at nd
  intro p hp e
  simp only [MM, List.mem_cons, List.not_mem_nil, or_false] at hp
  rcases hp with rfl | rfl | rfl | rfl | rfl
  · exact absurd e (by simp_all [eq_comm])
  · exact absurd e (by simp_all [eq_comm])
  · exact absurd e (by simp_all [eq_comm])
  · rfl
  · exact absurd e (by simp_all [eq_comm])
theorem tabs_law_rest2 : ((He.cT K ("_law_rest2", none)).2, ("_law_rest2.<locals>.<lambda>" : Str)) ∈ (MM K).tabs := by simp [MM]
theorem tabsu_law_rest2 (T : Txt w K mg base h) : ∀ p ∈ (MM K).tabs, p.1 = (He.cT K ("_law_rest2", none)).2 → p.2 = ("_law_rest2.<locals>.<lambda>" : Str) := by
  have nd : (tf.map fun p => (He.cT K p).2).Nodup := of_decide_eq_true T.c.more
  simp only [tf, List.map_cons, List.map_nil, List.nodup_cons, List.mem_cons, List.not_mem_nil, or_false, not_or] at nd
  intro p hp e
  simp only [MM, List.mem_cons, List.not_mem_nil, or_false] at hp
  rcases hp with rfl | rfl | rfl | rfl | rfl
  · exact absurd e (by simp_all [eq_comm])
  · exact absurd e (by simp_all [eq_comm])
  · exact absurd e (by simp_all [eq_comm])
  · exact absurd e (by simp_all [eq_comm])
  · rfl
def toldH : List ExceptHandler := match defBody s_law_told with
  | [.Try _ hs _ _ _] => hs
  | _ => []
theorem hd_told (T : Txt w K mg base h) : HdT (defScope s_law_told) mg (MM K) toldH toldL :=
  .cons rfl (ge_BadSize T) (by decide) (.cons rfl (ge_BadPlan T) (by decide) (.cons rfl (ge_NoSuch T) (by decide) (.cons rfl (ge_NoRoom T) (by decide) (.cons rfl (ge_NoWay T) (by decide) (.cons rfl (ge_Short T) (by decide) (.cons rfl (ge_BadText T) (by decide) (.cons rfl (ge_BadDeed T) (by decide) (.nil))))))))
theorem hx_told (T : Txt w K mg base h) : ∀ p ∈ toldL, ∀ q ∈ toldL, PySem.W.exmOne K (.ref ((MM K).exc p.1)) (.ref ((MM K).exc q.1)) = some (p.1 == q.1) := by
  intro p hp q hq
  simp only [toldL, List.mem_cons, List.not_mem_nil, or_false] at hp hq
  rcases hp with rfl | rfl | rfl | rfl | rfl | rfl | rfl | rfl <;> rcases hq with rfl | rfl | rfl | rfl | rfl | rfl | rfl | rfl
  · exact He.exm_ok (T.c.t.d.fact 56 (f := .exm "BadSize" "BadSize" true) rfl)
  · exact He.exm_ok (T.c.t.d.fact 57 (f := .exm "BadSize" "BadPlan" false) rfl)
  · exact He.exm_ok (T.c.t.d.fact 58 (f := .exm "BadSize" "NoSuch" false) rfl)
  · exact He.exm_ok (T.c.t.d.fact 59 (f := .exm "BadSize" "NoRoom" false) rfl)
  · exact He.exm_ok (T.c.t.d.fact 60 (f := .exm "BadSize" "NoWay" false) rfl)
  · exact He.exm_ok (T.c.t.d.fact 61 (f := .exm "BadSize" "Short" false) rfl)
  · exact He.exm_ok (T.c.t.d.fact 62 (f := .exm "BadSize" "BadText" false) rfl)
  · exact He.exm_ok (T.c.t.d.fact 63 (f := .exm "BadSize" "BadDeed" false) rfl)
  · exact He.exm_ok (T.c.t.d.fact 64 (f := .exm "BadPlan" "BadSize" false) rfl)
  · exact He.exm_ok (T.c.t.d.fact 65 (f := .exm "BadPlan" "BadPlan" true) rfl)
  · exact He.exm_ok (T.c.t.d.fact 66 (f := .exm "BadPlan" "NoSuch" false) rfl)
  · exact He.exm_ok (T.c.t.d.fact 67 (f := .exm "BadPlan" "NoRoom" false) rfl)
  · exact He.exm_ok (T.c.t.d.fact 68 (f := .exm "BadPlan" "NoWay" false) rfl)
  · exact He.exm_ok (T.c.t.d.fact 69 (f := .exm "BadPlan" "Short" false) rfl)
  · exact He.exm_ok (T.c.t.d.fact 70 (f := .exm "BadPlan" "BadText" false) rfl)
  · exact He.exm_ok (T.c.t.d.fact 71 (f := .exm "BadPlan" "BadDeed" false) rfl)
  · exact He.exm_ok (T.c.t.d.fact 72 (f := .exm "NoSuch" "BadSize" false) rfl)
  · exact He.exm_ok (T.c.t.d.fact 73 (f := .exm "NoSuch" "BadPlan" false) rfl)
  · exact He.exm_ok (T.c.t.d.fact 74 (f := .exm "NoSuch" "NoSuch" true) rfl)
  · exact He.exm_ok (T.c.t.d.fact 75 (f := .exm "NoSuch" "NoRoom" false) rfl)
  · exact He.exm_ok (T.c.t.d.fact 76 (f := .exm "NoSuch" "NoWay" false) rfl)
  · exact He.exm_ok (T.c.t.d.fact 77 (f := .exm "NoSuch" "Short" false) rfl)
  · exact He.exm_ok (T.c.t.d.fact 78 (f := .exm "NoSuch" "BadText" false) rfl)
  · exact He.exm_ok (T.c.t.d.fact 79 (f := .exm "NoSuch" "BadDeed" false) rfl)
  · exact He.exm_ok (T.c.t.d.fact 80 (f := .exm "NoRoom" "BadSize" false) rfl)
  · exact He.exm_ok (T.c.t.d.fact 81 (f := .exm "NoRoom" "BadPlan" false) rfl)
  · exact He.exm_ok (T.c.t.d.fact 82 (f := .exm "NoRoom" "NoSuch" false) rfl)
  · exact He.exm_ok (T.c.t.d.fact 83 (f := .exm "NoRoom" "NoRoom" true) rfl)
  · exact He.exm_ok (T.c.t.d.fact 84 (f := .exm "NoRoom" "NoWay" false) rfl)
  · exact He.exm_ok (T.c.t.d.fact 85 (f := .exm "NoRoom" "Short" false) rfl)
  · exact He.exm_ok (T.c.t.d.fact 86 (f := .exm "NoRoom" "BadText" false) rfl)
  · exact He.exm_ok (T.c.t.d.fact 87 (f := .exm "NoRoom" "BadDeed" false) rfl)
  · exact He.exm_ok (T.c.t.d.fact 88 (f := .exm "NoWay" "BadSize" false) rfl)
  · exact He.exm_ok (T.c.t.d.fact 89 (f := .exm "NoWay" "BadPlan" false) rfl)
  · exact He.exm_ok (T.c.t.d.fact 90 (f := .exm "NoWay" "NoSuch" false) rfl)
  · exact He.exm_ok (T.c.t.d.fact 91 (f := .exm "NoWay" "NoRoom" false) rfl)
  · exact He.exm_ok (T.c.t.d.fact 92 (f := .exm "NoWay" "NoWay" true) rfl)
  · exact He.exm_ok (T.c.t.d.fact 93 (f := .exm "NoWay" "Short" false) rfl)
  · exact He.exm_ok (T.c.t.d.fact 94 (f := .exm "NoWay" "BadText" false) rfl)
  · exact He.exm_ok (T.c.t.d.fact 95 (f := .exm "NoWay" "BadDeed" false) rfl)
  · exact He.exm_ok (T.c.t.d.fact 96 (f := .exm "Short" "BadSize" false) rfl)
  · exact He.exm_ok (T.c.t.d.fact 97 (f := .exm "Short" "BadPlan" false) rfl)
  · exact He.exm_ok (T.c.t.d.fact 98 (f := .exm "Short" "NoSuch" false) rfl)
  · exact He.exm_ok (T.c.t.d.fact 99 (f := .exm "Short" "NoRoom" false) rfl)
  · exact He.exm_ok (T.c.t.d.fact 100 (f := .exm "Short" "NoWay" false) rfl)
  · exact He.exm_ok (T.c.t.d.fact 101 (f := .exm "Short" "Short" true) rfl)
  · exact He.exm_ok (T.c.t.d.fact 102 (f := .exm "Short" "BadText" false) rfl)
  · exact He.exm_ok (T.c.t.d.fact 103 (f := .exm "Short" "BadDeed" false) rfl)
  · exact He.exm_ok (T.c.t.d.fact 104 (f := .exm "BadText" "BadSize" false) rfl)
  · exact He.exm_ok (T.c.t.d.fact 105 (f := .exm "BadText" "BadPlan" false) rfl)
  · exact He.exm_ok (T.c.t.d.fact 106 (f := .exm "BadText" "NoSuch" false) rfl)
  · exact He.exm_ok (T.c.t.d.fact 107 (f := .exm "BadText" "NoRoom" false) rfl)
  · exact He.exm_ok (T.c.t.d.fact 108 (f := .exm "BadText" "NoWay" false) rfl)
  · exact He.exm_ok (T.c.t.d.fact 109 (f := .exm "BadText" "Short" false) rfl)
  · exact He.exm_ok (T.c.t.d.fact 110 (f := .exm "BadText" "BadText" true) rfl)
  · exact He.exm_ok (T.c.t.d.fact 111 (f := .exm "BadText" "BadDeed" false) rfl)
  · exact He.exm_ok (T.c.t.d.fact 112 (f := .exm "BadDeed" "BadSize" false) rfl)
  · exact He.exm_ok (T.c.t.d.fact 113 (f := .exm "BadDeed" "BadPlan" false) rfl)
  · exact He.exm_ok (T.c.t.d.fact 114 (f := .exm "BadDeed" "NoSuch" false) rfl)
  · exact He.exm_ok (T.c.t.d.fact 115 (f := .exm "BadDeed" "NoRoom" false) rfl)
  · exact He.exm_ok (T.c.t.d.fact 116 (f := .exm "BadDeed" "NoWay" false) rfl)
  · exact He.exm_ok (T.c.t.d.fact 117 (f := .exm "BadDeed" "Short" false) rfl)
  · exact He.exm_ok (T.c.t.d.fact 118 (f := .exm "BadDeed" "BadText" false) rfl)
  · exact He.exm_ok (T.c.t.d.fact 119 (f := .exm "BadDeed" "BadDeed" true) rfl)
end
end L13
set_option Elab.async false
set_option linter.all false
set_option maxRecDepth 100000
set_option maxHeartbeats 4000000
namespace L13
open PySem PySem.Spec PyProof.Rows L2 DL
section
variable {P : Program} {w : World} {K : PySem.W.Frag} {mg : Str → Option Value} {base h : Heap}
theorem ok_Mill_init (T : Txt w K mg base h) : FnOk P w K mg base (L2.CX P w) 1 (He.fAd K ("Mill", some "__init__")) (fd_Mill_init T) ["self", "sill", "water", "takes", "fall"] (SpI K (MM K) 1 5 m_Mill_init) := by
  refine in_okT (k := 0) (N := ["self", "sill", "water", "takes", "fall"]) (body := B_Mill_init) (F_Mill_init T) sc_Mill_init fun cdv hcd A outer s H E hr => ?_
  have nd := sc_Mill_init.nd
  have hu := hr.units
  have tk : Takes (cxOf (L2.CX P w) P w K mg base ["self", "sill", "water", "takes", "fall"] "Mill.__init__" (defScope s_Mill_init) (He.fAd K ("Mill", some "__init__")) cdv A outer s H E) (WofE E) := takes_of rfl rfl rfl rfl
  have hW : Flat (WofE E) := fun _ _ _ _ _ z => z
  have hP : PassesOwn (model P w) (A.deeper (envOfC "Mill.__init__" (defScope s_Mill_init) s.heap.objs.size (He.fAd K ("Mill", some "__init__")) cdv)) (envOfC "Mill.__init__" (defScope s_Mill_init) s.heap.objs.size (He.fAd K ("Mill", some "__init__")) cdv) (cxOf (L2.CX P w) P w K mg base ["self", "sill", "water", "takes", "fall"] "Mill.__init__" (defScope s_Mill_init) (He.fAd K ("Mill", some "__init__")) cdv A outer s H E).xe := PassesOwn.leaving
  exact (dss_cons (ds_if (DW.t (dw_or (dt_cmp od_lt (DE.b (de_blt (cd_min2 rfl) (T.f_min) (by decide +kernel) (dab_cons (db_v 2) (dab_cons (db_v 3) dab_nil)))) (DE.b de_int) (nomark _)) (dw_or1 (dt_cmp od_lt (DE.b (de_blt (cd_min2 rfl) (T.f_min) (by decide +kernel) (dab_cons (db_v 1) (dab_cons (db_v 4) dab_nil)))) (DE.b de_int) (nomark _))))) (dss_one (ds_raise (T.exc_BadPlan) tk rfl (da_cons de_str da_nil))) dss_nil)
  (dss_cons (ds_fld (c := 1) (j := 0) T.cls1 (dp_v 0) (de_v 1))
  (dss_cons (ds_fld (c := 1) (j := 1) T.cls1 (dp_v 0) (de_v 2))
  (dss_cons (ds_fld (c := 1) (j := 2) T.cls1 (dp_v 0) (de_v 3))
  (dss_one (ds_fld (c := 1) (j := 3) T.cls1 (dp_v 0) (de_v 4)))))))
theorem ok_Mill_filled (T : Txt w K mg base h) : FnOk P w K mg base (L2.CX P w) 1 (He.fAd K ("Mill", some "filled")) (fd_Mill_filled T) ["self", "height"] (SpD K (MM K) 2 m_Mill_filled) := by
  refine fn_okT (k := 0) (N := ["self", "height"]) (body := B_Mill_filled) (F_Mill_filled T) sc_Mill_filled fun cdv hcd A outer s H E hr => ?_
  have nd := sc_Mill_filled.nd
  have hu := hr.units
  have tk : Takes (cxOf (L2.CX P w) P w K mg base ["self", "height"] "Mill.filled" (defScope s_Mill_filled) (He.fAd K ("Mill", some "filled")) cdv A outer s H E) (WofE E) := takes_of rfl rfl rfl rfl
  have hW : Flat (WofE E) := fun _ _ _ _ _ z => z
  have hP : PassesOwn (model P w) (A.deeper (envOfC "Mill.filled" (defScope s_Mill_filled) s.heap.objs.size (He.fAd K ("Mill", some "filled")) cdv)) (envOfC "Mill.filled" (defScope s_Mill_filled) s.heap.objs.size (He.fAd K ("Mill", some "filled")) cdv) (cxOf (L2.CX P w) P w K mg base ["self", "height"] "Mill.filled" (defScope s_Mill_filled) (He.fAd K ("Mill", some "filled")) cdv A outer s H E).xe := PassesOwn.leaving
  exact (dss_one (ds_ret (de_bin od_mul (DE.b (de_blt (cd_max2 rfl) (T.f_max) (by decide +kernel) (dab_cons (DE.b de_int) (dab_cons (DE.b (de_bin od_sub (db_v 1) (DE.b (de_fld (c := 1) (i := 0) T.cls1 (db_v 0))))) dab_nil)))) (DE.b (de_fld (c := 1) (i := 1) T.cls1 (db_v 0))))))
theorem ok_Mill_key (T : Txt w K mg base h) : FnOk P w K mg base (L2.CX P w) 1 (He.fAd K ("Mill", some "key")) (fd_Mill_key T) ["self"] (SpD K (MM K) 1 m_Mill_key) := by
  refine fn_okT (k := 0) (N := ["self"]) (body := B_Mill_key) (F_Mill_key T) sc_Mill_key fun cdv hcd A outer s H E hr => ?_
  have nd := sc_Mill_key.nd
  have hu := hr.units
  have tk : Takes (cxOf (L2.CX P w) P w K mg base ["self"] "Mill.key" (defScope s_Mill_key) (He.fAd K ("Mill", some "key")) cdv A outer s H E) (WofE E) := takes_of rfl rfl rfl rfl
  have hW : Flat (WofE E) := fun _ _ _ _ _ z => z
  have hP : PassesOwn (model P w) (A.deeper (envOfC "Mill.key" (defScope s_Mill_key) s.heap.objs.size (He.fAd K ("Mill", some "key")) cdv)) (envOfC "Mill.key" (defScope s_Mill_key) s.heap.objs.size (He.fAd K ("Mill", some "key")) cdv) (cxOf (L2.CX P w) P w K mg base ["self"] "Mill.key" (defScope s_Mill_key) (He.fAd K ("Mill", some "key")) cdv A outer s H E).xe := PassesOwn.leaving
  exact (dss_one (ds_ret (de_tup (da_cons (de_fld (c := 1) (i := 0) T.cls1 (db_v 0)) (da_cons (de_fld (c := 1) (i := 1) T.cls1 (db_v 0)) (da_cons (de_fld (c := 1) (i := 2) T.cls1 (db_v 0)) (da_cons (de_fld (c := 1) (i := 3) T.cls1 (db_v 0)) da_nil)))))))
theorem ok_Tide_init (T : Txt w K mg base h) : FnOk P w K mg base (L2.CX P w) 1 (He.fAd K ("Tide", some "__init__")) (fd_Tide_init T) ["self", "first", "between", "spring", "neap", "days"] (SpI K (MM K) 0 6 m_Tide_init) := by
  refine in_okT (k := 0) (N := ["self", "first", "between", "spring", "neap", "days"]) (body := B_Tide_init) (F_Tide_init T) sc_Tide_init fun cdv hcd A outer s H E hr => ?_
  have nd := sc_Tide_init.nd
  have hu := hr.units
  have tk : Takes (cxOf (L2.CX P w) P w K mg base ["self", "first", "between", "spring", "neap", "days"] "Tide.__init__" (defScope s_Tide_init) (He.fAd K ("Tide", some "__init__")) cdv A outer s H E) (WofE E) := takes_of rfl rfl rfl rfl
  have hW : Flat (WofE E) := fun _ _ _ _ _ z => z
  have hP : PassesOwn (model P w) (A.deeper (envOfC "Tide.__init__" (defScope s_Tide_init) s.heap.objs.size (He.fAd K ("Tide", some "__init__")) cdv)) (envOfC "Tide.__init__" (defScope s_Tide_init) s.heap.objs.size (He.fAd K ("Tide", some "__init__")) cdv) (cxOf (L2.CX P w) P w K mg base ["self", "first", "between", "spring", "neap", "days"] "Tide.__init__" (defScope s_Tide_init) (He.fAd K ("Tide", some "__init__")) cdv A outer s H E).xe := PassesOwn.leaving
  exact (dss_cons (ds_if (DW.t (dw_or (dt_cmp od_lt (db_v 2) (DE.b de_int) (nomark _)) (dw_or (dt_cmp od_lt (db_v 5) (DE.b de_int) (nomark _)) (dw_or (dt_not (dt_ch od_le od_le (DE.b de_int) (db_v 4) (db_v 3))) (dw_or1 (dt_cmp od_lt (db_v 1) (DE.b de_int) (nomark _))))))) (dss_one (ds_raise (T.exc_BadPlan) tk rfl (da_cons de_str da_nil))) dss_nil)
  (dss_cons (ds_fld (c := 0) (j := 0) T.cls0 (dp_v 0) (de_v 1))
  (dss_cons (ds_fld (c := 0) (j := 1) T.cls0 (dp_v 0) (de_v 2))
  (dss_cons (ds_fld (c := 0) (j := 2) T.cls0 (dp_v 0) (de_v 3))
  (dss_cons (ds_fld (c := 0) (j := 3) T.cls0 (dp_v 0) (de_v 4))
  (dss_one (ds_fld (c := 0) (j := 4) T.cls0 (dp_v 0) (de_v 5))))))))
theorem ok_Tide_high (T : Txt w K mg base h) : FnOk P w K mg base (L2.CX P w) 1 (He.fAd K ("Tide", some "high")) (fd_Tide_high T) ["self", "number"] (SpD K (MM K) 2 m_Tide_high) := by
  refine fn_okT (k := 0) (N := ["self", "number"]) (body := B_Tide_high) (F_Tide_high T) sc_Tide_high fun cdv hcd A outer s H E hr => ?_
  have nd := sc_Tide_high.nd
  have hu := hr.units
  have tk : Takes (cxOf (L2.CX P w) P w K mg base ["self", "number"] "Tide.high" (defScope s_Tide_high) (He.fAd K ("Tide", some "high")) cdv A outer s H E) (WofE E) := takes_of rfl rfl rfl rfl
  have hW : Flat (WofE E) := fun _ _ _ _ _ z => z
  have hP : PassesOwn (model P w) (A.deeper (envOfC "Tide.high" (defScope s_Tide_high) s.heap.objs.size (He.fAd K ("Tide", some "high")) cdv)) (envOfC "Tide.high" (defScope s_Tide_high) s.heap.objs.size (He.fAd K ("Tide", some "high")) cdv) (cxOf (L2.CX P w) P w K mg base ["self", "number"] "Tide.high" (defScope s_Tide_high) (He.fAd K ("Tide", some "high")) cdv A outer s H E).xe := PassesOwn.leaving
  exact (dss_cons (ds_if (dt_cmp od_lt (db_v 1) (DE.b de_int) (nomark _)) (dss_one (ds_raise (T.exc_BadSize) tk rfl (da_cons de_str da_nil))) dss_nil)
  (dss_one (ds_ret (de_bin od_add (DE.b (de_fld (c := 0) (i := 0) T.cls0 (db_v 0))) (DE.b (de_bin od_mul (db_v 1) (DE.b (de_fld (c := 0) (i := 1) T.cls0 (db_v 0)))))))))
theorem ok_Tide_next_high (T : Txt w K mg base h) : FnOk P w K mg base (L2.CX P w) 2 (He.fAd K ("Tide", some "next_high")) (fd_Tide_next_high T) ["self", "minute"] (SpD K (MM K) 2 m_Tide_next_high) := by
  refine fn_okT (k := 1) (N := ["self", "minute", "number"]) (body := B_Tide_next_high) (F_Tide_next_high T) sc_Tide_next_high fun cdv hcd A outer s H E hr => ?_
  have nd := sc_Tide_next_high.nd
  have hu := hr.units
  have tk : Takes (cxOf (L2.CX P w) P w K mg base ["self", "minute", "number"] "Tide.next_high" (defScope s_Tide_next_high) (He.fAd K ("Tide", some "next_high")) cdv A outer s H E) (WofE E) := takes_of rfl rfl rfl rfl
  have hW : Flat (WofE E) := fun _ _ _ _ _ z => z
  have hP : PassesOwn (model P w) (A.deeper (envOfC "Tide.next_high" (defScope s_Tide_next_high) s.heap.objs.size (He.fAd K ("Tide", some "next_high")) cdv)) (envOfC "Tide.next_high" (defScope s_Tide_next_high) s.heap.objs.size (He.fAd K ("Tide", some "next_high")) cdv) (cxOf (L2.CX P w) P w K mg base ["self", "minute", "number"] "Tide.next_high" (defScope s_Tide_next_high) (He.fAd K ("Tide", some "next_high")) cdv A outer s H E).xe := PassesOwn.leaving
  exact (dss_cons (ds_set 2 nd (de_blt (cd_max2 rfl) (T.f_max) (by decide +kernel) (dab_cons (DE.b de_int) (dab_cons (DE.b (de_bin od_sub (DE.b de_int) (DE.b (de_bin od_div (DE.b (de_bin od_sub (DE.b (de_fld (c := 0) (i := 0) T.cls0 (db_v 0))) (db_v 1))) (DE.b (de_fld (c := 0) (i := 1) T.cls0 (db_v 0))))))) dab_nil))))
  (dss_one (ds_ret (de_tup (da_cons (de_v 2) (da_cons (de_meth (ok_Tide_high T) (b_Tide_high T) T.cls0 (me_Tide_high T) (hr.mono (by decide)) tk hW (de_v 0) (da_cons (de_v 2) da_nil)) da_nil))))))
theorem ok_Tide_on_day (T : Txt w K mg base h) : FnOk P w K mg base (L2.CX P w) 3 (He.fAd K ("Tide", some "on_day")) (fd_Tide_on_day T) ["self", "day"] (SpD K (MM K) 2 m_Tide_on_day) := by
  refine fn_okT (k := 2) (N := ["self", "day", "number", "minute", "found"]) (body := B_Tide_on_day) (F_Tide_on_day T) sc_Tide_on_day fun cdv hcd A outer s H E hr => ?_
  have nd := sc_Tide_on_day.nd
  have hu := hr.units
  have tk : Takes (cxOf (L2.CX P w) P w K mg base ["self", "day", "number", "minute", "found"] "Tide.on_day" (defScope s_Tide_on_day) (He.fAd K ("Tide", some "on_day")) cdv A outer s H E) (WofE E) := takes_of rfl rfl rfl rfl
  have hW : Flat (WofE E) := fun _ _ _ _ _ z => z
  have hP : PassesOwn (model P w) (A.deeper (envOfC "Tide.on_day" (defScope s_Tide_on_day) s.heap.objs.size (He.fAd K ("Tide", some "on_day")) cdv)) (envOfC "Tide.on_day" (defScope s_Tide_on_day) s.heap.objs.size (He.fAd K ("Tide", some "on_day")) cdv) (cxOf (L2.CX P w) P w K mg base ["self", "day", "number", "minute", "found"] "Tide.on_day" (defScope s_Tide_on_day) (He.fAd K ("Tide", some "on_day")) cdv A outer s H E).xe := PassesOwn.leaving
  exact (dss_cons (ds_if (dt_cmp od_lt (db_v 1) (DE.b de_int) (nomark _)) (dss_one (ds_raise (T.exc_BadSize) tk rfl (da_cons de_str da_nil))) dss_nil)
  (dss_cons (ds_asg (de_meth (ok_Tide_next_high T) (b_Tide_next_high T) T.cls0 (me_Tide_next_high T) (hr.mono (by decide)) tk hW (de_v 0) (da_cons (de_bin od_mul (DE.b de_int) (db_v 1)) da_nil)) (dg_tup rfl (dgs_cons (dg_name 2 nd) (dgs_cons (dg_name 3 nd) dgs_nil))))
  (dss_cons (ds_setO 4 nd (df_lst da_nil))
  (dss_cons (ds_while (whN _ _) hP (dt_cmp od_lt (db_v 3) (DE.b (de_bin od_mul (DE.b de_int) (DE.b (de_bin od_add (db_v 1) (DE.b de_int))))) (nomark _)) (dss_cons (ds_mt PySem.F.plainAttrs_list PySem.F.slot_list_append PySem.F.type_list_append wm_append (dp_v 4) (da_cons (de_bin od_sub (db_v 3) (DE.b (de_bin od_mul (DE.b de_int) (db_v 1)))) da_nil))
  (dss_cons (ds_aug 2 nd id_add (DE.b de_int))
  (dss_one (ds_set 3 nd (de_meth (ok_Tide_high T) (b_Tide_high T) T.cls0 (me_Tide_high T) (hr.mono (by decide)) tk hW (de_v 0) (da_cons (de_v 2) da_nil)))))))
  (dss_one (ds_ret (de_bty (cd_tuple) (T.f_tuple) (by decide +kernel) (dab_cons (db_v 4) dab_nil))))))))
theorem ok_Tide_best_days (T : Txt w K mg base h) : FnOk P w K mg base (L2.CX P w) 4 (He.fAd K ("Tide", some "best_days")) (fd_Tide_best_days T) ["self", "days", "light", "dark"] (SpD K (MM K) 4 m_Tide_best_days) := by
  refine fn_okT (k := 3) (N := ["self", "days", "light", "dark", "counts", "day", "minute", "many"]) (body := B_Tide_best_days) (F_Tide_best_days T) sc_Tide_best_days fun cdv hcd A outer s H E hr => ?_
  have nd := sc_Tide_best_days.nd
  have hu := hr.units
  have tk : Takes (cxOf (L2.CX P w) P w K mg base ["self", "days", "light", "dark", "counts", "day", "minute", "many"] "Tide.best_days" (defScope s_Tide_best_days) (He.fAd K ("Tide", some "best_days")) cdv A outer s H E) (WofE E) := takes_of rfl rfl rfl rfl
  have hW : Flat (WofE E) := fun _ _ _ _ _ z => z
  have hP : PassesOwn (model P w) (A.deeper (envOfC "Tide.best_days" (defScope s_Tide_best_days) s.heap.objs.size (He.fAd K ("Tide", some "best_days")) cdv)) (envOfC "Tide.best_days" (defScope s_Tide_best_days) s.heap.objs.size (He.fAd K ("Tide", some "best_days")) cdv) (cxOf (L2.CX P w) P w K mg base ["self", "days", "light", "dark", "counts", "day", "minute", "many"] "Tide.best_days" (defScope s_Tide_best_days) (He.fAd K ("Tide", some "best_days")) cdv A outer s H E).xe := PassesOwn.leaving
  exact (dss_cons (ds_if (DW.t (dw_or (dt_cmp od_lt (db_v 1) (DE.b de_int) (nomark _)) (dw_or1 (dt_not (dt_ch3 od_le od_lt od_le (DE.b de_int) (db_v 2) (db_v 3) (DE.b de_int)))))) (dss_one (ds_raise (T.exc_BadSize) tk rfl (da_cons de_str da_nil))) dss_nil)
  (dss_cons (ds_set 4 nd (DF.de (df_lc (own := [("day", 5)]) rfl nd (DI.s (di_range1 T.f_range (da_cons (de_v 1) da_nil))) (by first | exact (show blkC ["self", "days", "light", "dark", "counts", "day", "minute", "many"] (defScope s_Tide_best_days) _ [("day", 5)] = true by decide +kernel) | rfl) (fun s2 H2 C2 cl2 fp2 => (dg_name 5 nd)) (fun s2 H2 C2 cl2 fp2 => blkT hr fun hu tk hW => dts_nil) (fun s2 H2 C2 cl2 fp2 => blkE hr fun hu tk hW => (de_gsum (k := 0) (own := [("minute", 6)]) rfl nd (hr.mono (by decide)) (T.f_sum) (T.tb ("Tide", some "best_days") (by simp [tf])) hcd (tabs_Tide_best_days) (tabsu_Tide_best_days T) (DI.s (di_tup (de_meth (ok_Tide_on_day T) (b_Tide_on_day T) T.cls0 (me_Tide_on_day T) (hr.mono (by decide)) tk hW (de_v 0) (da_cons (de_v 5) da_nil)))) (by first | exact (show genC ["self", "days", "light", "dark", "counts", "day", "minute", "many"] (defScope s_Tide_best_days) _ [("minute", 6)] = true by decide +kernel) | decide +kernel | rfl) (fun s2 H2 C2 cd2 fp2 => (dg_name 6 nd)) (fun s2 H2 C2 cd2 fp2 => genT (k := 2) (hr.mono (by decide)) fun hr hu tk hW => (dts_one (dt_ch od_le od_lt (db_v 2) (db_v 6) (db_v 3)))) (fun s2 H2 C2 cd2 fp2 => genE (k := 2) (hr.mono (by decide)) fun hr hu tk hW => de_int))))))
  (dss_one (ds_ret (de_bty (cd_tuple) (T.f_tuple) (by decide +kernel) (dab_cons (DE.b (DF.de (df_lc (own := [("day", 5), ("many", 7)]) rfl nd (DI.s (di_enum T.f_enumerate (da_cons (de_v 4) da_nil))) (by first | exact (show blkC ["self", "days", "light", "dark", "counts", "day", "minute", "many"] (defScope s_Tide_best_days) _ [("day", 5), ("many", 7)] = true by decide +kernel) | rfl) (fun s2 H2 C2 cl2 fp2 => (dg_tup rfl (dgs_cons (dg_name 5 nd) (dgs_cons (dg_name 7 nd) dgs_nil)))) (fun s2 H2 C2 cl2 fp2 => blkT hr fun hu tk hW => (dts_one (dt_cmp (od_eq hu) (db_v 7) (DE.b (de_blt (cd_max rfl hu) (T.f_max) (by decide +kernel) (dab_cons (db_v 4) dab_nil))) (nomark _)))) (fun s2 H2 C2 cl2 fp2 => blkE hr fun hu tk hW => (de_v 5))))) dab_nil))))))
theorem ok_Tide_height (T : Txt w K mg base h) : FnOk P w K mg base (L2.CX P w) 2 (He.fAd K ("Tide", some "height")) (fd_Tide_height T) ["self", "number"] (SpD K (MM K) 2 m_Tide_height) := by
  refine fn_okT (k := 1) (N := ["self", "number", "day", "gap"]) (body := B_Tide_height) (F_Tide_height T) sc_Tide_height fun cdv hcd A outer s H E hr => ?_
  have nd := sc_Tide_height.nd
  have hu := hr.units
  have tk : Takes (cxOf (L2.CX P w) P w K mg base ["self", "number", "day", "gap"] "Tide.height" (defScope s_Tide_height) (He.fAd K ("Tide", some "height")) cdv A outer s H E) (WofE E) := takes_of rfl rfl rfl rfl
  have hW : Flat (WofE E) := fun _ _ _ _ _ z => z
  have hP : PassesOwn (model P w) (A.deeper (envOfC "Tide.height" (defScope s_Tide_height) s.heap.objs.size (He.fAd K ("Tide", some "height")) cdv)) (envOfC "Tide.height" (defScope s_Tide_height) s.heap.objs.size (He.fAd K ("Tide", some "height")) cdv) (cxOf (L2.CX P w) P w K mg base ["self", "number", "day", "gap"] "Tide.height" (defScope s_Tide_height) (He.fAd K ("Tide", some "height")) cdv A outer s H E).xe := PassesOwn.leaving
  exact (dss_cons (ds_set 2 nd (de_bin od_mod (DE.b (de_bin od_div (DE.b (de_meth (ok_Tide_high T) (b_Tide_high T) T.cls0 (me_Tide_high T) (hr.mono (by decide)) tk hW (de_v 0) (da_cons (de_v 1) da_nil))) (DE.b de_int))) (DE.b (de_fld (c := 0) (i := 4) T.cls0 (db_v 0)))))
  (dss_cons (ds_set 3 nd (de_blt (cd_min2 rfl) (T.f_min) (by decide +kernel) (dab_cons (db_v 2) (dab_cons (DE.b (de_bin od_sub (DE.b (de_fld (c := 0) (i := 4) T.cls0 (db_v 0))) (db_v 2))) dab_nil))))
  (dss_one (ds_ret (de_bin od_sub (DE.b (de_fld (c := 0) (i := 2) T.cls0 (db_v 0))) (DE.b (de_bin od_div (DE.b (de_bin od_mul (DE.b (de_bin od_mul (DE.b (de_bin od_sub (DE.b (de_fld (c := 0) (i := 2) T.cls0 (db_v 0))) (DE.b (de_fld (c := 0) (i := 3) T.cls0 (db_v 0))))) (DE.b de_int))) (db_v 3))) (DE.b (de_fld (c := 0) (i := 4) T.cls0 (db_v 0))))))))))
theorem ok_Tide_key (T : Txt w K mg base h) : FnOk P w K mg base (L2.CX P w) 1 (He.fAd K ("Tide", some "key")) (fd_Tide_key T) ["self"] (SpD K (MM K) 1 m_Tide_key) := by
  refine fn_okT (k := 0) (N := ["self"]) (body := B_Tide_key) (F_Tide_key T) sc_Tide_key fun cdv hcd A outer s H E hr => ?_
  have nd := sc_Tide_key.nd
  have hu := hr.units
  have tk : Takes (cxOf (L2.CX P w) P w K mg base ["self"] "Tide.key" (defScope s_Tide_key) (He.fAd K ("Tide", some "key")) cdv A outer s H E) (WofE E) := takes_of rfl rfl rfl rfl
  have hW : Flat (WofE E) := fun _ _ _ _ _ z => z
  have hP : PassesOwn (model P w) (A.deeper (envOfC "Tide.key" (defScope s_Tide_key) s.heap.objs.size (He.fAd K ("Tide", some "key")) cdv)) (envOfC "Tide.key" (defScope s_Tide_key) s.heap.objs.size (He.fAd K ("Tide", some "key")) cdv) (cxOf (L2.CX P w) P w K mg base ["self"] "Tide.key" (defScope s_Tide_key) (He.fAd K ("Tide", some "key")) cdv A outer s H E).xe := PassesOwn.leaving
  exact (dss_one (ds_ret (de_tup (da_cons (de_fld (c := 0) (i := 0) T.cls0 (db_v 0)) (da_cons (de_fld (c := 0) (i := 1) T.cls0 (db_v 0)) (da_cons (de_fld (c := 0) (i := 2) T.cls0 (db_v 0)) (da_cons (de_fld (c := 0) (i := 3) T.cls0 (db_v 0)) (da_cons (de_fld (c := 0) (i := 4) T.cls0 (db_v 0)) da_nil))))))))
theorem ok_Tide_level (T : Txt w K mg base h) : FnOk P w K mg base (L2.CX P w) 3 (He.fAd K ("Tide", some "level")) (fd_Tide_level T) ["self", "minute"] (SpD K (MM K) 2 m_Tide_level) := by
  refine fn_okT (k := 2) (N := ["self", "minute", "number", "after", "half", "since"]) (body := B_Tide_level) (F_Tide_level T) sc_Tide_level fun cdv hcd A outer s H E hr => ?_
  have nd := sc_Tide_level.nd
  have hu := hr.units
  have tk : Takes (cxOf (L2.CX P w) P w K mg base ["self", "minute", "number", "after", "half", "since"] "Tide.level" (defScope s_Tide_level) (He.fAd K ("Tide", some "level")) cdv A outer s H E) (WofE E) := takes_of rfl rfl rfl rfl
  have hW : Flat (WofE E) := fun _ _ _ _ _ z => z
  have hP : PassesOwn (model P w) (A.deeper (envOfC "Tide.level" (defScope s_Tide_level) s.heap.objs.size (He.fAd K ("Tide", some "level")) cdv)) (envOfC "Tide.level" (defScope s_Tide_level) s.heap.objs.size (He.fAd K ("Tide", some "level")) cdv) (cxOf (L2.CX P w) P w K mg base ["self", "minute", "number", "after", "half", "since"] "Tide.level" (defScope s_Tide_level) (He.fAd K ("Tide", some "level")) cdv A outer s H E).xe := PassesOwn.leaving
  exact (dss_cons (ds_asg (de_meth (ok_Tide_next_high T) (b_Tide_next_high T) T.cls0 (me_Tide_next_high T) (hr.mono (by decide)) tk hW (de_v 0) (da_cons (de_v 1) da_nil)) (dg_tup rfl (dgs_cons (dg_name 2 nd) (dgs_cons (dg_name 3 nd) dgs_nil))))
  (dss_cons (ds_set 4 nd (de_bin od_div (DE.b (de_fld (c := 0) (i := 1) T.cls0 (db_v 0))) (DE.b de_int)))
  (dss_cons (ds_set 5 nd (de_bin od_sub (db_v 1) (DE.b (de_bin od_sub (db_v 3) (DE.b (de_fld (c := 0) (i := 1) T.cls0 (db_v 0)))))))
  (dss_cons (ds_if (DW.t (dw_and (dt_cmp od_gt (db_v 2) (DE.b de_int) (nomark _)) (dw_and1 (dt_cmp od_le (db_v 5) (db_v 4) (nomark _))))) (dss_one (ds_ret (de_bin od_div (DE.b (de_bin od_mul (DE.b (de_meth (ok_Tide_height T) (b_Tide_height T) T.cls0 (me_Tide_height T) (hr.mono (by decide)) tk hW (de_v 0) (da_cons (de_bin od_sub (db_v 2) (DE.b de_int)) da_nil))) (DE.b (de_bin od_sub (db_v 4) (db_v 5))))) (db_v 4)))) dss_nil)
  (dss_one (ds_ret (de_bin od_div (DE.b (de_bin od_mul (DE.b (de_meth (ok_Tide_height T) (b_Tide_height T) T.cls0 (me_Tide_height T) (hr.mono (by decide)) tk hW (de_v 0) (da_cons (de_v 2) da_nil))) (DE.b (de_blt (cd_max2 rfl) (T.f_max) (by decide +kernel) (dab_cons (DE.b de_int) (dab_cons (DE.b (de_bin od_sub (db_v 4) (DE.b (de_bin od_sub (db_v 3) (db_v 1))))) dab_nil)))))) (db_v 4))))))))
theorem ok_law_height (T : Txt w K mg base h) : FnOk P w K mg base (L2.CX P w) 1 (He.fAd K ("_law_height", none)) (fd_law_height T) ["row", "number"] (SpD K (MM K) 2 m_law_height) := by
  refine fn_okT (k := 0) (N := ["row", "number", "first", "between", "spring", "neap", "days", "day"]) (body := B_law_height) (F_law_height T) sc_law_height fun cdv hcd A outer s H E hr => ?_
  have nd := sc_law_height.nd
  have hu := hr.units
  have tk : Takes (cxOf (L2.CX P w) P w K mg base ["row", "number", "first", "between", "spring", "neap", "days", "day"] "_law_height" (defScope s_law_height) (He.fAd K ("_law_height", none)) cdv A outer s H E) (WofE E) := takes_of rfl rfl rfl rfl
  have hW : Flat (WofE E) := fun _ _ _ _ _ z => z
  have hP : PassesOwn (model P w) (A.deeper (envOfC "_law_height" (defScope s_law_height) s.heap.objs.size (He.fAd K ("_law_height", none)) cdv)) (envOfC "_law_height" (defScope s_law_height) s.heap.objs.size (He.fAd K ("_law_height", none)) cdv) (cxOf (L2.CX P w) P w K mg base ["row", "number", "first", "between", "spring", "neap", "days", "day"] "_law_height" (defScope s_law_height) (He.fAd K ("_law_height", none)) cdv A outer s H E).xe := PassesOwn.leaving
  exact (dss_cons (ds_asg (de_v 0) (dg_tup rfl (dgs_cons (dg_name 2 nd) (dgs_cons (dg_name 3 nd) (dgs_cons (dg_name 4 nd) (dgs_cons (dg_name 5 nd) (dgs_cons (dg_name 6 nd) dgs_nil)))))))
  (dss_cons (ds_set 7 nd (de_bin od_mod (DE.b (de_bin od_div (DE.b (de_bin od_add (db_v 2) (DE.b (de_bin od_mul (db_v 1) (db_v 3))))) (DE.b de_int))) (db_v 6)))
  (dss_one (ds_ret (de_bin od_sub (db_v 4) (DE.b (de_bin od_div (DE.b (de_bin od_mul (DE.b (de_bin od_mul (DE.b (de_bin od_sub (db_v 4) (db_v 5))) (DE.b de_int))) (DE.b (de_blt (cd_min2 rfl) (T.f_min) (by decide +kernel) (dab_cons (db_v 7) (dab_cons (DE.b (de_bin od_sub (db_v 6) (db_v 7))) dab_nil)))))) (db_v 6))))))))
theorem ok_law_level (T : Txt w K mg base h) : FnOk P w K mg base (L2.CX P w) 2 (He.fAd K ("_law_level", none)) (fd_law_level T) ["row", "minute"] (SpD K (MM K) 2 m_law_level) := by
  refine fn_okT (k := 1) (N := ["row", "minute", "first", "between", "half", "best", "before", "k", "last", "since", "gap"]) (body := B_law_level) (F_law_level T) sc_law_level fun cdv hcd A outer s H E hr => ?_
  have nd := sc_law_level.nd
  have hu := hr.units
  have tk : Takes (cxOf (L2.CX P w) P w K mg base ["row", "minute", "first", "between", "half", "best", "before", "k", "last", "since", "gap"] "_law_level" (defScope s_law_level) (He.fAd K ("_law_level", none)) cdv A outer s H E) (WofE E) := takes_of rfl rfl rfl rfl
  have hW : Flat (WofE E) := fun _ _ _ _ _ z => z
  have hP : PassesOwn (model P w) (A.deeper (envOfC "_law_level" (defScope s_law_level) s.heap.objs.size (He.fAd K ("_law_level", none)) cdv)) (envOfC "_law_level" (defScope s_law_level) s.heap.objs.size (He.fAd K ("_law_level", none)) cdv) (cxOf (L2.CX P w) P w K mg base ["row", "minute", "first", "between", "half", "best", "before", "k", "last", "since", "gap"] "_law_level" (defScope s_law_level) (He.fAd K ("_law_level", none)) cdv A outer s H E).xe := PassesOwn.leaving
  exact (dss_cons (ds_asg (de_slice (db_v 0) do_none (do_some de_int)) (dg_tup rfl (dgs_cons (dg_name 2 nd) (dgs_cons (dg_name 3 nd) dgs_nil))))
  (dss_cons (ds_par2 4 5 rfl nd (da_cons (de_bin od_div (db_v 3) (DE.b de_int)) (da_cons de_int da_nil)))
  (dss_cons (ds_setLc (own := [("k", 7)]) 6 rfl nd (DI.s (di_range1 T.f_range (da_cons de_int da_nil))) (by first | exact (show blkC ["row", "minute", "first", "between", "half", "best", "before", "k", "last", "since", "gap"] (defScope s_law_level) _ [("k", 7)] = true by decide +kernel) | rfl) (fun s2 H2 C2 cl2 fp2 => (dg_name 7 nd)) (fun s2 H2 C2 cl2 fp2 => blkT hr fun hu tk hW => (dts_one (dt_cmp od_le (DE.b (de_bin od_add (db_v 2) (DE.b (de_bin od_mul (db_v 7) (db_v 3))))) (db_v 1) (nomark _)))) (fun s2 H2 C2 cl2 fp2 => blkE hr fun hu tk hW => (de_v 7)))
  (dss_cons (ds_if (dt_cmp (od_ne hu) (db_v 6) (DE.b (de_lst da_nil)) (nomark _)) (dss_cons (ds_set 8 nd (de_ix (db_v 6) (DE.b (de_bin od_sub (DE.b (de_blt (cd_len) (T.f_len) (by decide +kernel) (dab_cons (db_v 6) dab_nil))) (DE.b de_int)))))
  (dss_cons (ds_set 9 nd (de_bin od_sub (DE.b (de_bin od_sub (db_v 1) (db_v 2))) (DE.b (de_bin od_mul (db_v 8) (db_v 3)))))
  (dss_cons (ds_if (dt_cmp (od_eq hu) (db_v 9) (DE.b de_int) (nomark _)) (dss_one (ds_ret (de_call (ok_law_height T) (b_law_height T) (k_law_height T) (g_law_height T) (hr.mono (by decide)) tk (da_cons (de_v 0) (da_cons (de_v 8) da_nil))))) dss_nil)
  (dss_cons (ds_if (dt_cmp od_le (db_v 9) (db_v 4) (nomark _)) (dss_one (ds_ret (de_bin od_div (DE.b (de_bin od_mul (DE.b (de_call (ok_law_height T) (b_law_height T) (k_law_height T) (g_law_height T) (hr.mono (by decide)) tk (da_cons (de_v 0) (da_cons (de_v 8) da_nil)))) (DE.b (de_bin od_sub (db_v 4) (db_v 9))))) (db_v 4)))) dss_nil)
  (dss_one (ds_set 5 nd (de_bin od_add (db_v 8) (DE.b de_int)))))))) dss_nil)
  (dss_cons (ds_set 10 nd (de_bin od_sub (DE.b (de_bin od_add (db_v 2) (DE.b (de_bin od_mul (db_v 5) (db_v 3))))) (db_v 1)))
  (dss_one (ds_ret (de_bin od_div (DE.b (de_bin od_mul (DE.b (de_call (ok_law_height T) (b_law_height T) (k_law_height T) (g_law_height T) (hr.mono (by decide)) tk (da_cons (de_v 0) (da_cons (de_v 5) da_nil)))) (DE.b (de_blt (cd_max2 rfl) (T.f_max) (by decide +kernel) (dab_cons (DE.b de_int) (dab_cons (DE.b (de_bin od_sub (db_v 4) (db_v 10))) dab_nil)))))) (db_v 4)))))))))
theorem ok_Mill_can_run (T : Txt w K mg base h) : FnOk P w K mg base (L2.CX P w) 4 (He.fAd K ("Mill", some "can_run")) (fd_Mill_can_run T) ["self", "tide", "number", "minute", "hours"] (SpD K (MM K) 5 m_Mill_can_run) := by
  refine fn_okT (k := 3) (N := ["self", "tide", "number", "minute", "hours", "left"]) (body := B_Mill_can_run) (F_Mill_can_run T) sc_Mill_can_run fun cdv hcd A outer s H E hr => ?_
  have nd := sc_Mill_can_run.nd
  have hu := hr.units
  have tk : Takes (cxOf (L2.CX P w) P w K mg base ["self", "tide", "number", "minute", "hours", "left"] "Mill.can_run" (defScope s_Mill_can_run) (He.fAd K ("Mill", some "can_run")) cdv A outer s H E) (WofE E) := takes_of rfl rfl rfl rfl
  have hW : Flat (WofE E) := fun _ _ _ _ _ z => z
  have hP : PassesOwn (model P w) (A.deeper (envOfC "Mill.can_run" (defScope s_Mill_can_run) s.heap.objs.size (He.fAd K ("Mill", some "can_run")) cdv)) (envOfC "Mill.can_run" (defScope s_Mill_can_run) s.heap.objs.size (He.fAd K ("Mill", some "can_run")) cdv) (cxOf (L2.CX P w) P w K mg base ["self", "tide", "number", "minute", "hours", "left"] "Mill.can_run" (defScope s_Mill_can_run) (He.fAd K ("Mill", some "can_run")) cdv A outer s H E).xe := PassesOwn.leaving
  exact (dss_cons (ds_set 5 nd (de_bin od_sub (DE.b (de_meth (ok_Mill_filled T) (b_Mill_filled T) T.cls1 (me_Mill_filled T) (hr.mono (by decide)) tk hW (de_v 0) (da_cons (de_meth (ok_Tide_height T) (b_Tide_height T) T.cls0 (me_Tide_height T) (hr.mono (by decide)) tk hW (de_v 1) (da_cons (de_v 2) da_nil)) da_nil))) (DE.b (de_bin od_mul (db_v 4) (DE.b (de_fld (c := 1) (i := 2) T.cls1 (db_v 0)))))))
  (dss_one (ds_ret (de_cmp od_ge (DE.b (de_bin od_sub (DE.b (de_bin od_add (DE.b (de_fld (c := 1) (i := 0) T.cls1 (db_v 0))) (DE.b (de_bin od_div (db_v 5) (DE.b (de_fld (c := 1) (i := 1) T.cls1 (db_v 0))))))) (DE.b (de_meth (ok_Tide_level T) (b_Tide_level T) T.cls0 (me_Tide_level T) (hr.mono (by decide)) tk hW (de_v 1) (da_cons (de_v 3) da_nil))))) (DE.b (de_fld (c := 1) (i := 3) T.cls1 (db_v 0))) (nomark _)))))
theorem ok_Mill_hours (T : Txt w K mg base h) : FnOk P w K mg base (L2.CX P w) 5 (He.fAd K ("Mill", some "hours")) (fd_Mill_hours T) ["self", "tide", "number"] (SpD K (MM K) 3 m_Mill_hours) := by
  refine fn_okT (k := 4) (N := ["self", "tide", "number", "most", "found", "hour", "minute"]) (body := B_Mill_hours) (F_Mill_hours T) sc_Mill_hours fun cdv hcd A outer s H E hr => ?_
  have nd := sc_Mill_hours.nd
  have hu := hr.units
  have tk : Takes (cxOf (L2.CX P w) P w K mg base ["self", "tide", "number", "most", "found", "hour", "minute"] "Mill.hours" (defScope s_Mill_hours) (He.fAd K ("Mill", some "hours")) cdv A outer s H E) (WofE E) := takes_of rfl rfl rfl rfl
  have hW : Flat (WofE E) := fun _ _ _ _ _ z => z
  have hP : PassesOwn (model P w) (A.deeper (envOfC "Mill.hours" (defScope s_Mill_hours) s.heap.objs.size (He.fAd K ("Mill", some "hours")) cdv)) (envOfC "Mill.hours" (defScope s_Mill_hours) s.heap.objs.size (He.fAd K ("Mill", some "hours")) cdv) (cxOf (L2.CX P w) P w K mg base ["self", "tide", "number", "most", "found", "hour", "minute"] "Mill.hours" (defScope s_Mill_hours) (He.fAd K ("Mill", some "hours")) cdv A outer s H E).xe := PassesOwn.leaving
  exact (dss_cons (ds_set 3 nd (de_bin od_div (DE.b (de_meth (ok_Mill_filled T) (b_Mill_filled T) T.cls1 (me_Mill_filled T) (hr.mono (by decide)) tk hW (de_v 0) (da_cons (de_meth (ok_Tide_height T) (b_Tide_height T) T.cls0 (me_Tide_height T) (hr.mono (by decide)) tk hW (de_v 1) (da_cons (de_v 2) da_nil)) da_nil))) (DE.b (de_fld (c := 1) (i := 2) T.cls1 (db_v 0)))))
  (dss_cons (ds_set 4 nd de_int)
  (dss_cons (ds_wip [true, true, true, true, true, false, false] (ds_forW [true, true, true, true, true, false, false] hP rfl (di_range1 T.f_range (da_cons (de_bin od_div (DE.b (de_fld (c := 0) (i := 1) T.cls0 (db_v 1))) (DE.b de_int)) da_nil)) (dg_name 5 nd) (dss_wip [true, true, true, true, true, false, false] (dss_cons (ds_set 6 nd (de_bin od_add (DE.b (de_meth (ok_Tide_high T) (b_Tide_high T) T.cls0 (me_Tide_high T) (hr.mono (by decide)) tk hW (de_v 1) (da_cons (de_v 2) da_nil))) (DE.b (de_bin od_mul (DE.b de_int) (db_v 5)))))
  (dss_one (ds_if (DW.t (dw_and (dt_cmp od_lt (db_v 4) (db_v 3) (nomark _)) (dw_and1 (dt_val (de_meth (ok_Mill_can_run T) (b_Mill_can_run T) T.cls1 (me_Mill_can_run T) (hr.mono (by decide)) tk hW (de_v 0) (da_cons (de_v 1) (da_cons (de_v 2) (da_cons (de_v 6) (da_cons (de_v 4) da_nil))))))))) (dss_one (ds_aug 4 nd id_add (DE.b de_int))) dss_nil))))))
  (dss_one (ds_ret (de_v 4))))))
theorem ok_Mill_worst (T : Txt w K mg base h) : FnOk P w K mg base (L2.CX P w) 6 (He.fAd K ("Mill", some "worst")) (fd_Mill_worst T) ["self", "tide", "tides"] (SpD K (MM K) 3 m_Mill_worst) := by
  refine fn_okT (k := 5) (N := ["self", "tide", "tides", "rows", "number"]) (body := B_Mill_worst) (F_Mill_worst T) sc_Mill_worst fun cdv hcd A outer s H E hr => ?_
  have nd := sc_Mill_worst.nd
  have hu := hr.units
  have tk : Takes (cxOf (L2.CX P w) P w K mg base ["self", "tide", "tides", "rows", "number"] "Mill.worst" (defScope s_Mill_worst) (He.fAd K ("Mill", some "worst")) cdv A outer s H E) (WofE E) := takes_of rfl rfl rfl rfl
  have hW : Flat (WofE E) := fun _ _ _ _ _ z => z
  have hP : PassesOwn (model P w) (A.deeper (envOfC "Mill.worst" (defScope s_Mill_worst) s.heap.objs.size (He.fAd K ("Mill", some "worst")) cdv)) (envOfC "Mill.worst" (defScope s_Mill_worst) s.heap.objs.size (He.fAd K ("Mill", some "worst")) cdv) (cxOf (L2.CX P w) P w K mg base ["self", "tide", "tides", "rows", "number"] "Mill.worst" (defScope s_Mill_worst) (He.fAd K ("Mill", some "worst")) cdv A outer s H E).xe := PassesOwn.leaving
  exact (dss_cons (ds_if (dt_cmp od_lt (db_v 2) (DE.b de_int) (nomark _)) (dss_one (ds_raise (T.exc_NoWay) tk rfl (da_cons de_str da_nil))) dss_nil)
  (dss_cons (ds_setLc (own := [("number", 4)]) 3 rfl nd (DI.s (di_range1 T.f_range (da_cons (de_v 2) da_nil))) (by first | exact (show blkC ["self", "tide", "tides", "rows", "number"] (defScope s_Mill_worst) _ [("number", 4)] = true by decide +kernel) | rfl) (fun s2 H2 C2 cl2 fp2 => (dg_name 4 nd)) (fun s2 H2 C2 cl2 fp2 => blkT hr fun hu tk hW => dts_nil) (fun s2 H2 C2 cl2 fp2 => blkE hr fun hu tk hW => (de_tup (da_cons (de_meth (ok_Mill_hours T) (b_Mill_hours T) T.cls1 (me_Mill_hours T) (hr.mono (by decide)) tk hW (de_v 0) (da_cons (de_v 1) (da_cons (de_v 4) da_nil))) (da_cons (de_v 4) da_nil)))))
  (dss_one (ds_ret (de_ix (DE.b (de_blt (cd_min rfl hu) (T.f_min) (by decide +kernel) (dab_cons (db_v 3) dab_nil))) (DE.b de_int))))))
theorem ok_Mill_year (T : Txt w K mg base h) : FnOk P w K mg base (L2.CX P w) 8 (He.fAd K ("Mill", some "year")) (fd_Mill_year T) ["self", "tide", "tides"] (SpD K (MM K) 3 m_Mill_year) := by
  refine fn_okT (k := 7) (N := ["self", "tide", "tides", "number"]) (body := B_Mill_year) (F_Mill_year T) sc_Mill_year fun cdv hcd A outer s H E hr => ?_
  have nd := sc_Mill_year.nd
  have hu := hr.units
  have tk : Takes (cxOf (L2.CX P w) P w K mg base ["self", "tide", "tides", "number"] "Mill.year" (defScope s_Mill_year) (He.fAd K ("Mill", some "year")) cdv A outer s H E) (WofE E) := takes_of rfl rfl rfl rfl
  have hW : Flat (WofE E) := fun _ _ _ _ _ z => z
  have hP : PassesOwn (model P w) (A.deeper (envOfC "Mill.year" (defScope s_Mill_year) s.heap.objs.size (He.fAd K ("Mill", some "year")) cdv)) (envOfC "Mill.year" (defScope s_Mill_year) s.heap.objs.size (He.fAd K ("Mill", some "year")) cdv) (cxOf (L2.CX P w) P w K mg base ["self", "tide", "tides", "number"] "Mill.year" (defScope s_Mill_year) (He.fAd K ("Mill", some "year")) cdv A outer s H E).xe := PassesOwn.leaving
  exact (dss_one (ds_ret (de_gsum (k := 0) (own := [("number", 3)]) rfl nd (hr.mono (by decide)) (T.f_sum) (T.tb ("Mill", some "year") (by simp [tf])) hcd (tabs_Mill_year) (tabsu_Mill_year T) (DI.s (di_range1 T.f_range (da_cons (de_v 2) da_nil))) (by first | exact (show genC ["self", "tide", "tides", "number"] (defScope s_Mill_year) _ [("number", 3)] = true by decide +kernel) | decide +kernel | rfl) (fun s2 H2 C2 cd2 fp2 => (dg_name 3 nd)) (fun s2 H2 C2 cd2 fp2 => genT (k := 6) (hr.mono (by decide)) fun hr hu tk hW => dts_nil) (fun s2 H2 C2 cd2 fp2 => genE (k := 6) (hr.mono (by decide)) fun hr hu tk hW => (de_meth (ok_Mill_hours T) (b_Mill_hours T) T.cls1 (me_Mill_hours T) (hr.mono (by decide)) tk hW (de_v 0) (da_cons (de_v 1) (da_cons (de_v 3) da_nil)))))))
theorem ok_later_each_day (T : Txt w K mg base h) : FnOk P w K mg base (L2.CX P w) 1 (He.fAd K ("later_each_day", none)) (fd_later_each_day T) ["between"] (SpD K (MM K) 1 m_later_each_day) := by
  refine fn_okT (k := 0) (N := ["between"]) (body := B_later_each_day) (F_later_each_day T) sc_later_each_day fun cdv hcd A outer s H E hr => ?_
  have nd := sc_later_each_day.nd
  have hu := hr.units
  have tk : Takes (cxOf (L2.CX P w) P w K mg base ["between"] "later_each_day" (defScope s_later_each_day) (He.fAd K ("later_each_day", none)) cdv A outer s H E) (WofE E) := takes_of rfl rfl rfl rfl
  have hW : Flat (WofE E) := fun _ _ _ _ _ z => z
  have hP : PassesOwn (model P w) (A.deeper (envOfC "later_each_day" (defScope s_later_each_day) s.heap.objs.size (He.fAd K ("later_each_day", none)) cdv)) (envOfC "later_each_day" (defScope s_later_each_day) s.heap.objs.size (He.fAd K ("later_each_day", none)) cdv) (cxOf (L2.CX P w) P w K mg base ["between"] "later_each_day" (defScope s_later_each_day) (He.fAd K ("later_each_day", none)) cdv A outer s H E).xe := PassesOwn.leaving
  exact (dss_cons (ds_if (dt_cmp od_lt (db_v 0) (DE.b de_int) (nomark _)) (dss_one (ds_raise (T.exc_BadSize) tk rfl (da_cons de_str da_nil))) dss_nil)
  (dss_one (ds_ret (de_bin od_sub (DE.b (de_bin od_mul (DE.b de_int) (db_v 0))) (DE.b de_int)))))
theorem ok_read_height (T : Txt w K mg base h) : FnOk P w K mg base (L2.CX P w) 2 (He.fAd K ("read_height", none)) (fd_read_height T) ["marks", "place"] (SpD K (MM K) 2 m_read_height) := by
  refine fn_okT (k := 1) (N := ["marks", "place", "k", "low", "one", "high", "other"]) (body := B_read_height) (F_read_height T) sc_read_height fun cdv hcd A outer s H E hr => ?_
  have nd := sc_read_height.nd
  have hu := hr.units
  have tk : Takes (cxOf (L2.CX P w) P w K mg base ["marks", "place", "k", "low", "one", "high", "other"] "read_height" (defScope s_read_height) (He.fAd K ("read_height", none)) cdv A outer s H E) (WofE E) := takes_of rfl rfl rfl rfl
  have hW : Flat (WofE E) := fun _ _ _ _ _ z => z
  have hP : PassesOwn (model P w) (A.deeper (envOfC "read_height" (defScope s_read_height) s.heap.objs.size (He.fAd K ("read_height", none)) cdv)) (envOfC "read_height" (defScope s_read_height) s.heap.objs.size (He.fAd K ("read_height", none)) cdv) (cxOf (L2.CX P w) P w K mg base ["marks", "place", "k", "low", "one", "high", "other"] "read_height" (defScope s_read_height) (He.fAd K ("read_height", none)) cdv A outer s H E).xe := PassesOwn.leaving
  exact (dss_cons (ds_if (DW.t (dw_or (dt_cmp od_lt (DE.b (de_blt (cd_len) (T.f_len) (by decide +kernel) (dab_cons (db_v 0) dab_nil))) (DE.b de_int) (nomark _)) (dw_or1 (dt_val (de_gany (k := 0) (own := [("k", 2)]) rfl nd (hr.mono (by decide)) (T.f_any) (T.tb ("read_height", none) (by simp [tf])) hcd (tabs_read_height) (tabsu_read_height T) (DI.s (di_range2 T.f_range (da_cons de_int (da_cons (de_blt (cd_len) (T.f_len) (by decide +kernel) (dab_cons (db_v 0) dab_nil)) da_nil)))) (by first | exact (show genC ["marks", "place", "k", "low", "one", "high", "other"] (defScope s_read_height) _ [("k", 2)] = true by decide +kernel) | decide +kernel | rfl) (fun s2 H2 C2 cd2 fp2 => (dg_name 2 nd)) (fun s2 H2 C2 cd2 fp2 => genT (k := 0) (hr.mono (by decide)) fun hr hu tk hW => dts_nil) (fun s2 H2 C2 cd2 fp2 => genE (k := 0) (hr.mono (by decide)) fun hr hu tk hW => (de_cmp od_le (DE.b (de_ix (DE.b (de_ix (db_v 0) (db_v 2))) (DE.b de_int))) (DE.b (de_ix (DE.b (de_ix (db_v 0) (DE.b (de_bin od_sub (db_v 2) (DE.b de_int))))) (DE.b de_int))) (nomark _)))))))) (dss_one (ds_raise (T.exc_BadPlan) tk rfl (da_cons de_str da_nil))) dss_nil)
  (dss_cons (ds_wip [false, true, true, false, false, false, false] (ds_forW [false, true, true, false, false, false, false] hP rfl (di_zip T.f_zip (da_cons (de_v 0) (da_cons (de_slice (db_v 0) (do_some de_int) do_none) da_nil))) (dg_tup rfl (dgs_cons (dg_tup rfl (dgs_cons (dg_name 3 nd) (dgs_cons (dg_name 4 nd) dgs_nil))) (dgs_cons (dg_tup rfl (dgs_cons (dg_name 5 nd) (dgs_cons (dg_name 6 nd) dgs_nil))) dgs_nil))) (dss_wip [false, true, true, false, false, false, false] (dss_one (ds_if (dt_ch od_le od_le (db_v 3) (db_v 1) (db_v 5)) (dss_one (ds_ret (de_bin od_add (db_v 4) (DE.b (de_bin od_div (DE.b (de_bin od_mul (DE.b (de_bin od_sub (db_v 6) (db_v 4))) (DE.b (de_bin od_sub (db_v 1) (db_v 3))))) (DE.b (de_bin od_sub (db_v 5) (db_v 3)))))))) dss_nil)))))
  (dss_one (ds_raise (T.exc_NoWay) tk rfl (da_cons de_str da_nil)))))
theorem ok_twelfths (T : Txt w K mg base h) : FnOk P w K mg base (L2.CX P w) 1 (He.fAd K ("twelfths", none)) (fd_twelfths T) ["range_of", "hour"] (SpD K (MM K) 2 m_twelfths) := by
  refine fn_okT (k := 0) (N := ["range_of", "hour"]) (body := B_twelfths) (F_twelfths T) sc_twelfths fun cdv hcd A outer s H E hr => ?_
  have nd := sc_twelfths.nd
  have hu := hr.units
  have tk : Takes (cxOf (L2.CX P w) P w K mg base ["range_of", "hour"] "twelfths" (defScope s_twelfths) (He.fAd K ("twelfths", none)) cdv A outer s H E) (WofE E) := takes_of rfl rfl rfl rfl
  have hW : Flat (WofE E) := fun _ _ _ _ _ z => z
  have hP : PassesOwn (model P w) (A.deeper (envOfC "twelfths" (defScope s_twelfths) s.heap.objs.size (He.fAd K ("twelfths", none)) cdv)) (envOfC "twelfths" (defScope s_twelfths) s.heap.objs.size (He.fAd K ("twelfths", none)) cdv) (cxOf (L2.CX P w) P w K mg base ["range_of", "hour"] "twelfths" (defScope s_twelfths) (He.fAd K ("twelfths", none)) cdv A outer s H E).xe := PassesOwn.leaving
  exact (dss_cons (ds_if (DW.t (dw_or (dt_cmp od_lt (db_v 0) (DE.b de_int) (nomark _)) (dw_or1 (dt_not (dt_ch od_le od_le (DE.b de_int) (db_v 1) (DE.b de_int)))))) (dss_one (ds_raise (T.exc_BadSize) tk rfl (da_cons de_str da_nil))) dss_nil)
  (dss_one (ds_ret (de_bin od_div (DE.b (de_bin od_mul (db_v 0) (DE.b (de_ix (DE.b (de_tup (da_cons de_int (da_cons de_int (da_cons de_int (da_cons de_int (da_cons de_int (da_cons de_int (da_cons de_int da_nil))))))))) (db_v 1))))) (DE.b de_int)))))
theorem ok_law_cases1 (T : Txt w K mg base h) : FnOk P w K mg base (L2.CX P w) 5 (He.fAd K ("_law_cases1", none)) (fd_law_cases1 T) [] (SpD K (MM K) 0 m_law_cases1) := by
  refine fn_okT (k := 4) (N := []) (body := B_law_cases1) (F_law_cases1 T) sc_law_cases1 fun cdv hcd A outer s H E hr => ?_
  have nd := sc_law_cases1.nd
  have hu := hr.units
  have tk : Takes (cxOf (L2.CX P w) P w K mg base [] "_law_cases1" (defScope s_law_cases1) (He.fAd K ("_law_cases1", none)) cdv A outer s H E) (WofE E) := takes_of rfl rfl rfl rfl
  have hW : Flat (WofE E) := fun _ _ _ _ _ z => z
  have hP : PassesOwn (model P w) (A.deeper (envOfC "_law_cases1" (defScope s_law_cases1) s.heap.objs.size (He.fAd K ("_law_cases1", none)) cdv)) (envOfC "_law_cases1" (defScope s_law_cases1) s.heap.objs.size (He.fAd K ("_law_cases1", none)) cdv) (cxOf (L2.CX P w) P w K mg base [] "_law_cases1" (defScope s_law_cases1) (He.fAd K ("_law_cases1", none)) cdv A outer s H E).xe := PassesOwn.leaving
  exact (dss_cons (ds_if (dt_cmp (od_ne hu) (DE.b (de_told (k := 2) (F_law_told T) (b_law_told T) sc_law_told rfl (hd_told T) (hx_told T) rfl (.inl rfl) (T.tb ("_law_cases1", none) (by simp [tf])) hcd (tabs_law_cases1) (tabsu_law_cases1 T) (hr.mono (by decide)) (g_law_told T) (fun A2 outer2 s2 H2 E2 f2 c2 hr => de_lam hr fun hu tk hW => (DF.deN (df_make (ok_Tide_init T) (b_Tide_init T) (mk_Tide T) (g_Tide T) (hr.mono (by decide)) tk hW (da_cons de_int (da_cons de_int (da_cons de_int (da_cons de_int (da_cons de_int da_nil)))))))) (L := LamX.lamS_by (show LamX.lamSB (defScope s_law_cases1) _ = true by decide +kernel)))) (DE.b de_str) (nomark _)) (dss_one (ds_ret de_bl)) dss_nil)
  (dss_cons (ds_if (dt_cmp (od_ne hu) (DE.b (de_told (k := 2) (F_law_told T) (b_law_told T) sc_law_told rfl (hd_told T) (hx_told T) rfl (.inl rfl) (T.tb ("_law_cases1", none) (by simp [tf])) hcd (tabs_law_cases1) (tabsu_law_cases1 T) (hr.mono (by decide)) (g_law_told T) (fun A2 outer2 s2 H2 E2 f2 c2 hr => de_lam hr fun hu tk hW => (DF.deN (df_make (ok_Mill_init T) (b_Mill_init T) (mk_Mill T) (g_Mill T) (hr.mono (by decide)) tk hW (da_cons de_int (da_cons de_int (da_cons de_int (da_cons de_int da_nil))))))) (L := LamX.lamS_by (show LamX.lamSB (defScope s_law_cases1) _ = true by decide +kernel)))) (DE.b de_str) (nomark _)) (dss_one (ds_ret de_bl)) dss_nil)
  (dss_cons (ds_if (dt_cmp (od_ne hu) (DE.b (de_told (k := 2) (F_law_told T) (b_law_told T) sc_law_told rfl (hd_told T) (hx_told T) rfl (.inl rfl) (T.tb ("_law_cases1", none) (by simp [tf])) hcd (tabs_law_cases1) (tabsu_law_cases1 T) (hr.mono (by decide)) (g_law_told T) (fun A2 outer2 s2 H2 E2 f2 c2 hr => de_lam hr fun hu tk hW => (de_call (ok_later_each_day T) (b_later_each_day T) (k_later_each_day T) (g_later_each_day T) (hr.mono (by decide)) tk (da_cons de_int da_nil))) (L := LamX.lamS_by (show LamX.lamSB (defScope s_law_cases1) _ = true by decide +kernel)))) (DE.b de_str) (nomark _)) (dss_one (ds_ret de_bl)) dss_nil)
  (dss_cons (ds_if (dt_cmp (od_ne hu) (DE.b (de_told (k := 2) (F_law_told T) (b_law_told T) sc_law_told rfl (hd_told T) (hx_told T) rfl (.inl rfl) (T.tb ("_law_cases1", none) (by simp [tf])) hcd (tabs_law_cases1) (tabsu_law_cases1 T) (hr.mono (by decide)) (g_law_told T) (fun A2 outer2 s2 H2 E2 f2 c2 hr => de_lam hr fun hu tk hW => (de_call (ok_twelfths T) (b_twelfths T) (k_twelfths T) (g_twelfths T) (hr.mono (by decide)) tk (da_cons de_int (da_cons de_int da_nil)))) (L := LamX.lamS_by (show LamX.lamSB (defScope s_law_cases1) _ = true by decide +kernel)))) (DE.b de_str) (nomark _)) (dss_one (ds_ret de_bl)) dss_nil)
  (dss_cons (ds_if (dt_cmp (od_ne hu) (DE.b (de_told (k := 2) (F_law_told T) (b_law_told T) sc_law_told rfl (hd_told T) (hx_told T) rfl (.inl rfl) (T.tb ("_law_cases1", none) (by simp [tf])) hcd (tabs_law_cases1) (tabsu_law_cases1 T) (hr.mono (by decide)) (g_law_told T) (fun A2 outer2 s2 H2 E2 f2 c2 hr => de_lam hr fun hu tk hW => (de_call (ok_read_height T) (b_read_height T) (k_read_height T) (g_read_height T) (hr.mono (by decide)) tk (da_cons (de_lst (da_cons (de_tup (da_cons de_int (da_cons de_int da_nil))) da_nil)) (da_cons de_int da_nil)))) (L := LamX.lamS_by (show LamX.lamSB (defScope s_law_cases1) _ = true by decide +kernel)))) (DE.b de_str) (nomark _)) (dss_one (ds_ret de_bl)) dss_nil)
  (dss_one (ds_ret de_bl)))))))
theorem ok_law_roll (T : Txt w K mg base h) : FnOk P w K mg base (L2.CX P w) 1 (He.fAd K ("_law_roll", none)) (fd_law_roll T) ["dice", "many"] (SpD K (MM K) 2 m_law_roll) := by
  refine fn_okT (k := 0) (N := ["dice", "many", "found"]) (body := B_law_roll) (F_law_roll T) sc_law_roll fun cdv hcd A outer s H E hr => ?_
  have nd := sc_law_roll.nd
  have hu := hr.units
  have tk : Takes (cxOf (L2.CX P w) P w K mg base ["dice", "many", "found"] "_law_roll" (defScope s_law_roll) (He.fAd K ("_law_roll", none)) cdv A outer s H E) (WofE E) := takes_of rfl rfl rfl rfl
  have hW : Flat (WofE E) := fun _ _ _ _ _ z => z
  have hP : PassesOwn (model P w) (A.deeper (envOfC "_law_roll" (defScope s_law_roll) s.heap.objs.size (He.fAd K ("_law_roll", none)) cdv)) (envOfC "_law_roll" (defScope s_law_roll) s.heap.objs.size (He.fAd K ("_law_roll", none)) cdv) (cxOf (L2.CX P w) P w K mg base ["dice", "many", "found"] "_law_roll" (defScope s_law_roll) (He.fAd K ("_law_roll", none)) cdv A outer s H E).xe := PassesOwn.leaving
  exact (dss_cons (ds_if (DW.t (dw_or (dt_cmp (od_eq hu) (DE.b (de_ix (db_v 0) (DE.b de_int))) (DE.b de_int) (nomark _)) (dw_or1 (DW.t (dw_and (dt_cmp (od_eq hu) (DE.b (de_ix (db_v 0) (DE.b de_int))) (DE.b de_int) (nomark _)) (dw_and1 (dt_cmp od_gt (DE.b (de_ix (db_v 0) (DE.b de_int))) (DE.b de_int) (nomark _)))))))) (dss_cons (ds_set 2 nd (de_bin od_mod (DE.b (de_bty (cd_int) (T.f_int) (by decide +kernel) (dab_cons (DE.b (de_ix (db_v 0) (DE.b de_int))) dab_nil))) (db_v 1)))
  (dss_cons (ds_st (de_bin od_div (DE.b (de_ix (db_v 0) (DE.b de_int))) (db_v 1)) (dp_v 0) de_int si_list)
  (dss_one (ds_ret (de_v 2))))) dss_nil)
  (dss_cons (ds_st de_int (dp_v 0) de_int si_list)
  (dss_cons (ds_st (de_bin od_mod (DE.b (de_bty (cd_int) (T.f_int) (by decide +kernel) (dab_cons (DE.b (de_bin od_add (DE.b (de_bin od_add (DE.b (de_bin od_mul (DE.b (de_ix (db_v 0) (DE.b de_int))) (DE.b de_int))) (DE.b (de_bin od_mul (DE.b (de_ix (db_v 0) (DE.b de_int))) (DE.b de_int))))) (DE.b de_int))) dab_nil))) (DE.b de_int)) (dp_v 0) de_int si_list)
  (dss_cons (ds_st (de_bin od_add (DE.b (de_ix (db_v 0) (DE.b de_int))) (DE.b de_int)) (dp_v 0) de_int si_list)
  (dss_one (ds_ret (de_bin od_mod (DE.b (de_bty (cd_int) (T.f_int) (by decide +kernel) (dab_cons (DE.b (de_bin od_add (DE.b (de_bin od_div (DE.b (de_ix (db_v 0) (DE.b de_int))) (DE.b de_int))) (DE.b (de_ix (db_v 0) (DE.b de_int))))) dab_nil))) (db_v 1))))))))
theorem ok_law_rest2 (T : Txt w K mg base h) : FnOk P w K mg base (L2.CX P w) 9 (He.fAd K ("_law_rest2", none)) (fd_law_rest2 T) ["dice", "tide", "mill"] (SpD K (MM K) 3 m_law_rest2) := by
  refine fn_okT (k := 8) (N := ["dice", "tide", "mill", "marks", "k", "place", "due", "a", "x", "b", "y"]) (body := B_law_rest2) (F_law_rest2 T) sc_law_rest2 fun cdv hcd A outer s H E hr => ?_
  have nd := sc_law_rest2.nd
  have hu := hr.units
  have tk : Takes (cxOf (L2.CX P w) P w K mg base ["dice", "tide", "mill", "marks", "k", "place", "due", "a", "x", "b", "y"] "_law_rest2" (defScope s_law_rest2) (He.fAd K ("_law_rest2", none)) cdv A outer s H E) (WofE E) := takes_of rfl rfl rfl rfl
  have hW : Flat (WofE E) := fun _ _ _ _ _ z => z
  have hP : PassesOwn (model P w) (A.deeper (envOfC "_law_rest2" (defScope s_law_rest2) s.heap.objs.size (He.fAd K ("_law_rest2", none)) cdv)) (envOfC "_law_rest2" (defScope s_law_rest2) s.heap.objs.size (He.fAd K ("_law_rest2", none)) cdv) (cxOf (L2.CX P w) P w K mg base ["dice", "tide", "mill", "marks", "k", "place", "due", "a", "x", "b", "y"] "_law_rest2" (defScope s_law_rest2) (He.fAd K ("_law_rest2", none)) cdv A outer s H E).xe := PassesOwn.leaving
  exact (dss_cons (ds_setO 3 nd (df_lst (da_cons (de_tup (da_cons (de_call (ok_law_roll T) (b_law_roll T) (k_law_roll T) (g_law_roll T) (hr.mono (by decide)) tk (da_cons (de_v 0) (da_cons de_int da_nil))) (da_cons (de_call (ok_law_roll T) (b_law_roll T) (k_law_roll T) (g_law_roll T) (hr.mono (by decide)) tk (da_cons (de_v 0) (da_cons de_int da_nil))) da_nil))) da_nil)))
  (dss_cons (ds_wip [true, true, true, true, false, false, false, false, false, false, false] (ds_forW [true, true, true, true, false, false, false, false, false, false, false] hP rfl (di_range1 T.f_range (da_cons (de_bin od_add (DE.b de_int) (DE.b (de_call (ok_law_roll T) (b_law_roll T) (k_law_roll T) (g_law_roll T) (hr.mono (by decide)) tk (da_cons (de_v 0) (da_cons de_int da_nil))))) da_nil)) (dg_name 4 nd) (dss_wip [true, true, true, true, false, false, false, false, false, false, false] (dss_one (ds_mt PySem.F.plainAttrs_list PySem.F.slot_list_append PySem.F.type_list_append wm_append (dp_v 3) (da_cons (de_tup (da_cons (de_bin od_add (DE.b (de_bin od_add (DE.b (de_ix (DE.b (de_ix (db_v 3) (db_v 4))) (DE.b de_int))) (DE.b de_int))) (DE.b (de_call (ok_law_roll T) (b_law_roll T) (k_law_roll T) (g_law_roll T) (hr.mono (by decide)) tk (da_cons (de_v 0) (da_cons de_int da_nil))))) (da_cons (de_call (ok_law_roll T) (b_law_roll T) (k_law_roll T) (g_law_roll T) (hr.mono (by decide)) tk (da_cons (de_v 0) (da_cons de_int da_nil))) da_nil))) da_nil))))))
  (dss_cons (ds_set 5 nd (de_call (ok_law_roll T) (b_law_roll T) (k_law_roll T) (g_law_roll T) (hr.mono (by decide)) tk (da_cons (de_v 0) (da_cons de_int da_nil))))
  (dss_cons (ds_set 6 nd de_str)
  (dss_cons (ds_wip [false, true, true, true, false, true, true, false, false, false, false] (ds_forW [false, true, true, true, false, true, true, false, false, false, false] hP rfl (di_range2 T.f_range (da_cons de_int (da_cons (de_blt (cd_len) (T.f_len) (by decide +kernel) (dab_cons (db_v 3) dab_nil)) da_nil))) (dg_name 4 nd) (dss_wip [false, true, true, true, false, true, true, false, false, false, false] (dss_cons (ds_asg (de_ix (db_v 3) (DE.b (de_bin od_sub (db_v 4) (DE.b de_int)))) (dg_tup rfl (dgs_cons (dg_name 7 nd) (dgs_cons (dg_name 8 nd) dgs_nil))))
  (dss_cons (ds_asg (de_ix (db_v 3) (db_v 4)) (dg_tup rfl (dgs_cons (dg_name 9 nd) (dgs_cons (dg_name 10 nd) dgs_nil))))
  (dss_one (ds_set 6 nd (de_if (DW.t (dw_and (dt_ch od_le od_le (db_v 7) (db_v 5) (db_v 9)) (dw_and1 (dt_cmp (od_eq hu) (db_v 6) (DE.b de_str) (nomark _))))) (de_bin od_add (db_v 8) (DE.b (de_bin od_div (DE.b (de_bin od_mul (DE.b (de_bin od_sub (db_v 10) (db_v 8))) (DE.b (de_bin od_sub (db_v 5) (db_v 7))))) (DE.b (de_bin od_sub (db_v 9) (db_v 7)))))) (de_v 6)))))))))
  (dss_cons (ds_frz [3] (ds_if (dt_cmp (od_ne hu) (DE.b (de_told (k := 6) (F_law_told T) (b_law_told T) sc_law_told rfl (hd_told T) (hx_told T) rfl (.inl rfl) (T.tb ("_law_rest2", none) (by simp [tf])) hcd (tabs_law_rest2) (tabsu_law_rest2 T) (hr.mono (by decide)) (g_law_told T) (fun A2 outer2 s2 H2 E2 f2 c2 hr => de_lam hr fun hu tk hW => (de_call (ok_read_height T) (b_read_height T) (k_read_height T) (g_read_height T) (hr.mono (by decide)) tk (da_cons (de_v 3) (da_cons (de_v 5) da_nil)))) (L := LamX.lamS_by (show LamX.lamSB (defScope s_law_rest2) _ = true by decide +kernel)))) (db_v 6) (nomark _)) (dss_one (ds_ret de_bl)) dss_nil))
  (dss_cons (ds_if (dt_not (dt_val (de_call0 (ok_law_cases1 T) (b_law_cases1 T) (k_law_cases1 T) (g_law_cases1 T) (hr.mono (by decide)) tk hW))) (dss_one (ds_ret de_bl)) dss_nil)
  (dss_cons (ds_if (dt_cmp (od_ne hu) (DE.b (de_told (k := 6) (F_law_told T) (b_law_told T) sc_law_told rfl (hd_told T) (hx_told T) rfl (.inl rfl) (T.tb ("_law_rest2", none) (by simp [tf])) hcd (tabs_law_rest2) (tabsu_law_rest2 T) (hr.mono (by decide)) (g_law_told T) (fun A2 outer2 s2 H2 E2 f2 c2 hr => de_lam hr fun hu tk hW => (de_meth (ok_Tide_high T) (b_Tide_high T) T.cls0 (me_Tide_high T) (hr.mono (by decide)) tk hW (de_v 1) (da_cons (de_bin od_sub (DE.b de_int) (DE.b de_int)) da_nil))) (L := LamX.lamS_by (show LamX.lamSB (defScope s_law_rest2) _ = true by decide +kernel)))) (DE.b de_str) (nomark _)) (dss_one (ds_ret de_bl)) dss_nil)
  (dss_cons (ds_if (dt_cmp (od_ne hu) (DE.b (de_told (k := 6) (F_law_told T) (b_law_told T) sc_law_told rfl (hd_told T) (hx_told T) rfl (.inl rfl) (T.tb ("_law_rest2", none) (by simp [tf])) hcd (tabs_law_rest2) (tabsu_law_rest2 T) (hr.mono (by decide)) (g_law_told T) (fun A2 outer2 s2 H2 E2 f2 c2 hr => de_lam hr fun hu tk hW => (de_meth (ok_Tide_on_day T) (b_Tide_on_day T) T.cls0 (me_Tide_on_day T) (hr.mono (by decide)) tk hW (de_v 1) (da_cons (de_bin od_sub (DE.b de_int) (DE.b de_int)) da_nil))) (L := LamX.lamS_by (show LamX.lamSB (defScope s_law_rest2) _ = true by decide +kernel)))) (DE.b de_str) (nomark _)) (dss_one (ds_ret de_bl)) dss_nil)
  (dss_cons (ds_if (dt_cmp (od_ne hu) (DE.b (de_told (k := 6) (F_law_told T) (b_law_told T) sc_law_told rfl (hd_told T) (hx_told T) rfl (.inl rfl) (T.tb ("_law_rest2", none) (by simp [tf])) hcd (tabs_law_rest2) (tabsu_law_rest2 T) (hr.mono (by decide)) (g_law_told T) (fun A2 outer2 s2 H2 E2 f2 c2 hr => de_lam hr fun hu tk hW => (de_meth (ok_Tide_best_days T) (b_Tide_best_days T) T.cls0 (me_Tide_best_days T) (hr.mono (by decide)) tk hW (de_v 1) (da_cons de_int (da_cons de_int (da_cons de_int da_nil))))) (L := LamX.lamS_by (show LamX.lamSB (defScope s_law_rest2) _ = true by decide +kernel)))) (DE.b de_str) (nomark _)) (dss_one (ds_ret de_bl)) dss_nil)
  (dss_cons (ds_if (dt_cmp (od_ne hu) (DE.b (de_told (k := 6) (F_law_told T) (b_law_told T) sc_law_told rfl (hd_told T) (hx_told T) rfl (.inl rfl) (T.tb ("_law_rest2", none) (by simp [tf])) hcd (tabs_law_rest2) (tabsu_law_rest2 T) (hr.mono (by decide)) (g_law_told T) (fun A2 outer2 s2 H2 E2 f2 c2 hr => de_lam hr fun hu tk hW => (de_meth (ok_Mill_worst T) (b_Mill_worst T) T.cls1 (me_Mill_worst T) (hr.mono (by decide)) tk hW (de_v 2) (da_cons (de_v 1) (da_cons de_int da_nil)))) (L := LamX.lamS_by (show LamX.lamSB (defScope s_law_rest2) _ = true by decide +kernel)))) (DE.b de_str) (nomark _)) (dss_one (ds_ret de_bl)) dss_nil)
  (dss_one (ds_ret de_bl)))))))))))))
theorem ok_law_rest1 (T : Txt w K mg base h) : FnOk P w K mg base (L2.CX P w) 10 (He.fAd K ("_law_rest1", none)) (fd_law_rest1 T) ["dice", "row", "tide", "mine", "mill", "high", "runs"] (SpD K (MM K) 7 m_law_rest1) := by
  refine fn_okT (k := 9) (N := ["dice", "row", "tide", "mine", "mill", "high", "runs", "one", "hour", "pond", "done", "left", "now", "fall", "steps"]) (body := B_law_rest1) (F_law_rest1 T) sc_law_rest1 fun cdv hcd A outer s H E hr => ?_
  have nd := sc_law_rest1.nd
  have hu := hr.units
  have tk : Takes (cxOf (L2.CX P w) P w K mg base ["dice", "row", "tide", "mine", "mill", "high", "runs", "one", "hour", "pond", "done", "left", "now", "fall", "steps"] "_law_rest1" (defScope s_law_rest1) (He.fAd K ("_law_rest1", none)) cdv A outer s H E) (WofE E) := takes_of rfl rfl rfl rfl
  have hW : Flat (WofE E) := fun _ _ _ _ _ z => z
  have hP : PassesOwn (model P w) (A.deeper (envOfC "_law_rest1" (defScope s_law_rest1) s.heap.objs.size (He.fAd K ("_law_rest1", none)) cdv)) (envOfC "_law_rest1" (defScope s_law_rest1) s.heap.objs.size (He.fAd K ("_law_rest1", none)) cdv) (cxOf (L2.CX P w) P w K mg base ["dice", "row", "tide", "mine", "mill", "high", "runs", "one", "hour", "pond", "done", "left", "now", "fall", "steps"] "_law_rest1" (defScope s_law_rest1) (He.fAd K ("_law_rest1", none)) cdv A outer s H E).xe := PassesOwn.leaving
  exact (dss_cons (ds_wip [true, true, true, true, true, true, true, false, false, false, false, false, false, false, false] (ds_forW [true, true, true, true, true, true, true, false, false, false, false, false, false, false, false] hP rfl (di_range1 T.f_range (da_cons (de_bin od_add (DE.b de_int) (DE.b (de_call (ok_law_roll T) (b_law_roll T) (k_law_roll T) (g_law_roll T) (hr.mono (by decide)) tk (da_cons (de_v 0) (da_cons de_int da_nil))))) da_nil)) (dg_name 7 nd) (dss_wip [true, true, true, true, true, true, true, false, false, false, false, false, false, false, false] (dss_cons (ds_par2 9 10 rfl nd (da_cons (de_bin od_mul (DE.b (de_blt (cd_max2 rfl) (T.f_max) (by decide +kernel) (dab_cons (DE.b de_int) (dab_cons (DE.b (de_bin od_sub (DE.b (de_call (ok_law_height T) (b_law_height T) (k_law_height T) (g_law_height T) (hr.mono (by decide)) tk (da_cons (de_v 1) (da_cons (de_v 7) da_nil)))) (DE.b (de_ix (db_v 3) (DE.b de_int))))) dab_nil)))) (DE.b (de_ix (db_v 3) (DE.b de_int)))) (da_cons de_int da_nil)))
  (dss_cons (ds_wip [true, true, true, true, true, true, true, true, false, true, true, false, false, false, false] (ds_forW [true, true, true, true, true, true, true, true, false, true, true, false, false, false, false] hP rfl (di_range1 T.f_range (da_cons (de_bin od_div (DE.b (de_ix (db_v 1) (DE.b de_int))) (DE.b de_int)) da_nil)) (dg_name 8 nd) (dss_wip [true, true, true, true, true, true, true, true, false, true, true, false, false, false, false] (dss_cons (ds_set 11 nd (de_bin od_sub (db_v 9) (DE.b (de_bin od_mul (db_v 10) (DE.b (de_ix (db_v 3) (DE.b de_int)))))))
  (dss_cons (ds_set 12 nd (de_bin od_add (DE.b (de_bin od_add (DE.b (de_ix (db_v 1) (DE.b de_int))) (DE.b (de_bin od_mul (db_v 7) (DE.b (de_ix (db_v 1) (DE.b de_int))))))) (DE.b (de_bin od_mul (DE.b de_int) (db_v 8)))))
  (dss_cons (ds_set 13 nd (de_bin od_sub (DE.b (de_bin od_add (DE.b (de_ix (db_v 3) (DE.b de_int))) (DE.b (de_bin od_div (db_v 11) (DE.b (de_ix (db_v 3) (DE.b de_int))))))) (DE.b (de_call (ok_law_level T) (b_law_level T) (k_law_level T) (g_law_level T) (hr.mono (by decide)) tk (da_cons (de_v 1) (da_cons (de_v 12) da_nil))))))
  (dss_cons (ds_if (DW.t (dw_and (dt_cmp od_ge (db_v 11) (DE.b (de_ix (db_v 3) (DE.b de_int))) (nomark _)) (dw_and1 (dt_cmp (od_ne hu) (DE.b (de_meth (ok_Mill_can_run T) (b_Mill_can_run T) T.cls1 (me_Mill_can_run T) (hr.mono (by decide)) tk hW (de_v 4) (da_cons (de_v 2) (da_cons (de_v 7) (da_cons (de_v 12) (da_cons (de_v 10) da_nil)))))) (DE.b (de_cmp od_ge (db_v 13) (DE.b (de_ix (db_v 3) (DE.b de_int))) (nomark _))) (nomark _))))) (dss_one (ds_ret de_bl)) dss_nil)
  (dss_one (ds_set 10 nd (de_bin od_add (db_v 10) (DE.b (de_bty (cd_int) (T.f_int) (by decide +kernel) (dab_cons (DE.b (de_and (de_cmp od_ge (db_v 11) (DE.b (de_ix (db_v 3) (DE.b de_int))) (nomark _)) (de_one (de_cmp od_ge (db_v 13) (DE.b (de_ix (db_v 3) (DE.b de_int))) (nomark _))))) dab_nil)))))))))))))
  (dss_cons (ds_mt PySem.F.plainAttrs_list PySem.F.slot_list_append PySem.F.type_list_append wm_append (dp_v 6) (da_cons (de_v 10) da_nil))
  (dss_one (ds_if (dt_cmp (od_ne hu) (DE.b (de_meth (ok_Mill_hours T) (b_Mill_hours T) T.cls1 (me_Mill_hours T) (hr.mono (by decide)) tk hW (de_v 4) (da_cons (de_v 2) (da_cons (de_v 7) da_nil)))) (db_v 10) (nomark _)) (dss_one (ds_ret de_bl)) dss_nil))))))))
  (dss_cons (ds_if (DW.t (dw_or (dt_cmp (od_ne hu) (DE.b (de_meth (ok_Mill_year T) (b_Mill_year T) T.cls1 (me_Mill_year T) (hr.mono (by decide)) tk hW (de_v 4) (da_cons (de_v 2) (da_cons (de_blt (cd_len) (T.f_len) (by decide +kernel) (dab_cons (db_v 6) dab_nil)) da_nil)))) (DE.b (de_blt (cd_sum rfl) (T.f_sum) (by decide +kernel) (dab_cons (db_v 6) dab_nil))) (nomark _)) (dw_or1 (dt_cmp (od_ne hu) (DE.b (de_meth (ok_Mill_worst T) (b_Mill_worst T) T.cls1 (me_Mill_worst T) (hr.mono (by decide)) tk hW (de_v 4) (da_cons (de_v 2) (da_cons (de_blt (cd_len) (T.f_len) (by decide +kernel) (dab_cons (db_v 6) dab_nil)) da_nil)))) (DE.b (de_mth PySem.F.plainAttrs_list PySem.F.slot_list_index tm_list_index (md_index (u65 hr)) (db_v 6) (dab_cons (DE.b (de_blt (cd_min rfl hu) (T.f_min) (by decide +kernel) (dab_cons (db_v 6) dab_nil))) dab_nil))) (nomark _))))) (dss_one (ds_ret de_bl)) dss_nil)
  (dss_cons (ds_if (dt_cmp (od_ne hu) (DE.b (de_call (ok_later_each_day T) (b_later_each_day T) (k_later_each_day T) (g_later_each_day T) (hr.mono (by decide)) tk (da_cons (de_ix (db_v 1) (DE.b de_int)) da_nil))) (DE.b (de_bin od_sub (DE.b (de_bin od_mul (DE.b de_int) (DE.b (de_ix (db_v 1) (DE.b de_int))))) (DE.b de_int))) (nomark _)) (dss_one (ds_ret de_bl)) dss_nil)
  (dss_cons (ds_par2 14 8 rfl nd (da_cons (de_lst (da_cons de_int (da_cons de_int (da_cons de_int (da_cons de_int (da_cons de_int (da_cons de_int (da_cons de_int da_nil)))))))) (da_cons (de_call (ok_law_roll T) (b_law_roll T) (k_law_roll T) (g_law_roll T) (hr.mono (by decide)) tk (da_cons (de_v 0) (da_cons de_int da_nil))) da_nil)))
  (dss_cons (ds_if (dt_cmp (od_ne hu) (DE.b (de_call (ok_twelfths T) (b_twelfths T) (k_twelfths T) (g_twelfths T) (hr.mono (by decide)) tk (da_cons (de_v 5) (da_cons (de_v 8) da_nil)))) (DE.b (de_bin od_div (DE.b (de_bin od_mul (db_v 5) (DE.b (de_blt (cd_sum rfl) (T.f_sum) (by decide +kernel) (dab_cons (DE.b (de_slice (db_v 14) do_none (do_some (de_bin od_add (db_v 8) (DE.b de_int))))) dab_nil))))) (DE.b de_int))) (nomark _)) (dss_one (ds_ret de_bl)) dss_nil)
  (dss_one (ds_ret (de_call (ok_law_rest2 T) (b_law_rest2 T) (k_law_rest2 T) (g_law_rest2 T) (hr.mono (by decide)) tk (da_cons (de_v 0) (da_cons (de_v 2) (da_cons (de_v 4) da_nil)))))))))))
theorem ok_law_dice (T : Txt w K mg base h) : FnOk P w K mg base (L2.CX P w) 1 (He.fAd K ("_law_dice", none)) (fd_law_dice T) ["cell"] (SpD K (MM K) 1 m_law_dice) := by
  refine fn_okT (k := 0) (N := ["cell"]) (body := B_law_dice) (F_law_dice T) sc_law_dice fun cdv hcd A outer s H E hr => ?_
  have nd := sc_law_dice.nd
  have hu := hr.units
  have tk : Takes (cxOf (L2.CX P w) P w K mg base ["cell"] "_law_dice" (defScope s_law_dice) (He.fAd K ("_law_dice", none)) cdv A outer s H E) (WofE E) := takes_of rfl rfl rfl rfl
  have hW : Flat (WofE E) := fun _ _ _ _ _ z => z
  have hP : PassesOwn (model P w) (A.deeper (envOfC "_law_dice" (defScope s_law_dice) s.heap.objs.size (He.fAd K ("_law_dice", none)) cdv)) (envOfC "_law_dice" (defScope s_law_dice) s.heap.objs.size (He.fAd K ("_law_dice", none)) cdv) (cxOf (L2.CX P w) P w K mg base ["cell"] "_law_dice" (defScope s_law_dice) (He.fAd K ("_law_dice", none)) cdv A outer s H E).xe := PassesOwn.leaving
  exact (dss_cons (ds_if (dt_ch od_lt od_lt (DE.b (de_bin od_sub (DE.b de_int) (DE.b de_int))) (db_v 0) (DE.b de_int)) (dss_one (ds_ret (DF.han (df_lst (da_cons (de_blt (cd_abs) (T.f_abs) (by decide +kernel) (dab_cons (db_v 0) dab_nil)) (da_cons de_int (da_cons de_int da_nil))))))) dss_nil)
  (dss_one (ds_ret (DF.han (df_lst (da_cons (de_v 0) (da_cons (de_bin od_add (DE.b de_int) (DE.b (de_bin od_mod (DE.b (de_bty (cd_int) (T.f_int) (by decide +kernel) (dab_cons (db_v 0) dab_nil))) (DE.b de_int)))) (da_cons (de_bty (cd_int) (T.f_int) (by decide +kernel) (dab_cons (DE.b (de_cmp od_ge (db_v 0) (DE.b (de_bin od_pow (DE.b de_int) (DE.b de_int))) (nomark _))) dab_nil)) da_nil))))))))
theorem ok_law_rounds (T : Txt w K mg base h) : FnOk P w K mg base (L2.CX P w) 2 (He.fAd K ("_law_rounds", none)) (fd_law_rounds T) ["script", "most"] (SpD K (MM K) 2 m_law_rounds) := by
  refine fn_okT (k := 1) (N := ["script", "most", "cells", "cell"]) (body := B_law_rounds) (F_law_rounds T) sc_law_rounds fun cdv hcd A outer s H E hr => ?_
  have nd := sc_law_rounds.nd
  have hu := hr.units
  have tk : Takes (cxOf (L2.CX P w) P w K mg base ["script", "most", "cells", "cell"] "_law_rounds" (defScope s_law_rounds) (He.fAd K ("_law_rounds", none)) cdv A outer s H E) (WofE E) := takes_of rfl rfl rfl rfl
  have hW : Flat (WofE E) := fun _ _ _ _ _ z => z
  have hP : PassesOwn (model P w) (A.deeper (envOfC "_law_rounds" (defScope s_law_rounds) s.heap.objs.size (He.fAd K ("_law_rounds", none)) cdv)) (envOfC "_law_rounds" (defScope s_law_rounds) s.heap.objs.size (He.fAd K ("_law_rounds", none)) cdv) (cxOf (L2.CX P w) P w K mg base ["script", "most", "cells", "cell"] "_law_rounds" (defScope s_law_rounds) (He.fAd K ("_law_rounds", none)) cdv A outer s H E).xe := PassesOwn.leaving
  exact (dss_cons (ds_set 2 nd (de_slice (db_v 0) do_none (do_some (de_v 1))))
  (dss_cons (ds_if (dt_cmp (od_eq hu) (db_v 2) (DE.b (de_lst da_nil)) (nomark _)) (dss_one (ds_set 2 nd (de_lst (da_cons de_int da_nil)))) dss_nil)
  (dss_one (ds_ret (DF.de (df_lc (own := [("cell", 3)]) rfl nd (DI.s (di_list (de_v 2))) (by first | exact (show blkC ["script", "most", "cells", "cell"] (defScope s_law_rounds) _ [("cell", 3)] = true by decide +kernel) | rfl) (fun s2 H2 C2 cl2 fp2 => (dg_name 3 nd)) (fun s2 H2 C2 cl2 fp2 => blkT hr fun hu tk hW => dts_nil) (fun s2 H2 C2 cl2 fp2 => blkE hr fun hu tk hW => (de_call (ok_law_dice T) (b_law_dice T) (k_law_dice T) (g_law_dice T) (hr.mono (by decide)) tk (da_cons (de_v 3) da_nil)))))))))
theorem ok_law (T : Txt w K mg base h) : FnOk P w K mg base (L2.CX P w) 11 (He.fAd K ("law", none)) (fd_law T) ["script"] (SpD K (MM K) 1 m_law) := by
  refine fn_okT (k := 10) (N := ["script", "dice", "neap", "row", "minute", "later", "some", "day", "highs", "dark", "counts", "one", "mine", "mill", "high", "runs", "tide", "number", "days", "light", "k"]) (body := B_law) (F_law T) sc_law fun cdv hcd A outer s H E hr => ?_
  have nd := sc_law.nd
  have hu := hr.units
  have tk : Takes (cxOf (L2.CX P w) P w K mg base ["script", "dice", "neap", "row", "minute", "later", "some", "day", "highs", "dark", "counts", "one", "mine", "mill", "high", "runs", "tide", "number", "days", "light", "k"] "law" (defScope s_law) (He.fAd K ("law", none)) cdv A outer s H E) (WofE E) := takes_of rfl rfl rfl rfl
  have hW : Flat (WofE E) := fun _ _ _ _ _ z => z
  have hP : PassesOwn (model P w) (A.deeper (envOfC "law" (defScope s_law) s.heap.objs.size (He.fAd K ("law", none)) cdv)) (envOfC "law" (defScope s_law) s.heap.objs.size (He.fAd K ("law", none)) cdv) (cxOf (L2.CX P w) P w K mg base ["script", "dice", "neap", "row", "minute", "later", "some", "day", "highs", "dark", "counts", "one", "mine", "mill", "high", "runs", "tide", "number", "days", "light", "k"] "law" (defScope s_law) (He.fAd K ("law", none)) cdv A outer s H E).xe := PassesOwn.leaving
  exact (dss_cons (ds_wip [false, false, false, false, false, false, false, false, false, false, false, false, false, false, false, false, false, false, false, false] (ds_forW [false, false, false, false, false, false, false, false, false, false, false, false, false, false, false, false, false, false, false, false] hP rfl (di_list (de_call (ok_law_rounds T) (b_law_rounds T) (k_law_rounds T) (g_law_rounds T) (hr.mono (by decide)) tk (da_cons (de_v 0) (da_cons de_int da_nil)))) (dg_name 1 nd) (dss_wip [false, false, false, false, false, false, false, false, false, false, false, false, false, false, false, false, false, false, false, false] (dss_cons (ds_set 2 nd (de_call (ok_law_roll T) (b_law_roll T) (k_law_roll T) (g_law_roll T) (hr.mono (by decide)) tk (da_cons (de_v 1) (da_cons de_int da_nil))))
  (dss_cons (ds_set 3 nd (de_tup (da_cons (de_call (ok_law_roll T) (b_law_roll T) (k_law_roll T) (g_law_roll T) (hr.mono (by decide)) tk (da_cons (de_v 1) (da_cons de_int da_nil))) (da_cons (de_bin od_add (DE.b de_int) (DE.b (de_call (ok_law_roll T) (b_law_roll T) (k_law_roll T) (g_law_roll T) (hr.mono (by decide)) tk (da_cons (de_v 1) (da_cons de_int da_nil))))) (da_cons (de_bin od_add (db_v 2) (DE.b (de_call (ok_law_roll T) (b_law_roll T) (k_law_roll T) (g_law_roll T) (hr.mono (by decide)) tk (da_cons (de_v 1) (da_cons de_int da_nil))))) (da_cons (de_v 2) (da_cons (de_bin od_add (DE.b de_int) (DE.b (de_call (ok_law_roll T) (b_law_roll T) (k_law_roll T) (g_law_roll T) (hr.mono (by decide)) tk (da_cons (de_v 1) (da_cons de_int da_nil))))) da_nil)))))))
  (dss_cons (ds_asg (de_tup (da_cons (DF.deN (df_make (ok_Tide_init T) (b_Tide_init T) (mk_Tide T) (g_Tide T) (hr.mono (by decide)) tk hW (da_cons (de_ix (db_v 3) (DE.b de_int)) (da_cons (de_ix (db_v 3) (DE.b de_int)) (da_cons (de_ix (db_v 3) (DE.b de_int)) (da_cons (de_ix (db_v 3) (DE.b de_int)) (da_cons (de_ix (db_v 3) (DE.b de_int)) da_nil))))))) (da_cons (de_call (ok_law_roll T) (b_law_roll T) (k_law_roll T) (g_law_roll T) (hr.mono (by decide)) tk (da_cons (de_v 1) (da_cons de_int da_nil))) da_nil))) (dg_tup rfl (dgs_cons (dg_name 16 nd) (dgs_cons (dg_name 17 nd) dgs_nil))))
  (dss_cons (ds_if (DW.t (dw_or (dt_cmp (od_ne hu) (DE.b (de_meth (ok_Tide_high T) (b_Tide_high T) T.cls0 (me_Tide_high T) (hr.mono (by decide)) tk hW (de_v 16) (da_cons (de_v 17) da_nil))) (DE.b (de_bin od_add (DE.b (de_ix (db_v 3) (DE.b de_int))) (DE.b (de_bin od_mul (db_v 17) (DE.b (de_ix (db_v 3) (DE.b de_int))))))) (nomark _)) (dw_or1 (dt_cmp (od_ne hu) (DE.b (de_meth0 (ok_Tide_key T) (b_Tide_key T) T.cls0 (me_Tide_key T) (hr.mono (by decide)) tk hW (de_v 16))) (db_v 3) (nomark _))))) (dss_one (ds_ret de_bl)) dss_nil)
  (dss_cons (ds_if (dt_cmp (od_ne hu) (DE.b (DF.de (df_lc (own := [("k", 20)]) rfl nd (DI.s (di_range1 T.f_range (da_cons de_int da_nil))) (by first | exact (show blkC ["script", "dice", "neap", "row", "minute", "later", "some", "day", "highs", "dark", "counts", "one", "mine", "mill", "high", "runs", "tide", "number", "days", "light", "k"] (defScope s_law) _ [("k", 20)] = true by decide +kernel) | rfl) (fun s2 H2 C2 cl2 fp2 => (dg_name 20 nd)) (fun s2 H2 C2 cl2 fp2 => blkT hr fun hu tk hW => dts_nil) (fun s2 H2 C2 cl2 fp2 => blkE hr fun hu tk hW => (de_meth (ok_Tide_height T) (b_Tide_height T) T.cls0 (me_Tide_height T) (hr.mono (by decide)) tk hW (de_v 16) (da_cons (de_v 20) da_nil)))))) (DE.b (DF.de (df_lc (own := [("k", 20)]) rfl nd (DI.s (di_range1 T.f_range (da_cons de_int da_nil))) (by first | exact (show blkC ["script", "dice", "neap", "row", "minute", "later", "some", "day", "highs", "dark", "counts", "one", "mine", "mill", "high", "runs", "tide", "number", "days", "light", "k"] (defScope s_law) _ [("k", 20)] = true by decide +kernel) | rfl) (fun s2 H2 C2 cl2 fp2 => (dg_name 20 nd)) (fun s2 H2 C2 cl2 fp2 => blkT hr fun hu tk hW => dts_nil) (fun s2 H2 C2 cl2 fp2 => blkE hr fun hu tk hW => (de_call (ok_law_height T) (b_law_height T) (k_law_height T) (g_law_height T) (hr.mono (by decide)) tk (da_cons (de_v 3) (da_cons (de_v 20) da_nil))))))) (nomark _)) (dss_one (ds_ret de_bl)) dss_nil)
  (dss_cons (ds_set 4 nd (de_call (ok_law_roll T) (b_law_roll T) (k_law_roll T) (g_law_roll T) (hr.mono (by decide)) tk (da_cons (de_v 1) (da_cons de_int da_nil))))
  (dss_cons (ds_set 5 nd (de_ix (DE.b (DF.de (df_lc (own := [("k", 20)]) rfl nd (DI.s (di_range1 T.f_range (da_cons de_int da_nil))) (by first | exact (show blkC ["script", "dice", "neap", "row", "minute", "later", "some", "day", "highs", "dark", "counts", "one", "mine", "mill", "high", "runs", "tide", "number", "days", "light", "k"] (defScope s_law) _ [("k", 20)] = true by decide +kernel) | rfl) (fun s2 H2 C2 cl2 fp2 => (dg_name 20 nd)) (fun s2 H2 C2 cl2 fp2 => blkT hr fun hu tk hW => (dts_one (dt_cmp od_ge (DE.b (de_bin od_add (DE.b (de_ix (db_v 3) (DE.b de_int))) (DE.b (de_bin od_mul (db_v 20) (DE.b (de_ix (db_v 3) (DE.b de_int))))))) (db_v 4) (nomark _)))) (fun s2 H2 C2 cl2 fp2 => blkE hr fun hu tk hW => (de_v 20))))) (DE.b de_int)))
  (dss_cons (ds_if (dt_cmp (od_ne hu) (DE.b (de_meth (ok_Tide_next_high T) (b_Tide_next_high T) T.cls0 (me_Tide_next_high T) (hr.mono (by decide)) tk hW (de_v 16) (da_cons (de_v 4) da_nil))) (DE.b (de_tup (da_cons (de_v 5) (da_cons (de_bin od_add (DE.b (de_ix (db_v 3) (DE.b de_int))) (DE.b (de_bin od_mul (db_v 5) (DE.b (de_ix (db_v 3) (DE.b de_int)))))) da_nil)))) (nomark _)) (dss_one (ds_ret de_bl)) dss_nil)
  (dss_cons (ds_set 6 nd (de_lst (da_cons (de_v 4) (da_cons (de_bin od_add (DE.b (de_ix (db_v 3) (DE.b de_int))) (DE.b (de_bin od_mul (db_v 17) (DE.b (de_ix (db_v 3) (DE.b de_int)))))) (da_cons (de_bin od_add (DE.b (de_bin od_add (DE.b (de_ix (db_v 3) (DE.b de_int))) (DE.b (de_bin od_mul (db_v 17) (DE.b (de_ix (db_v 3) (DE.b de_int))))))) (DE.b (de_bin od_div (DE.b (de_ix (db_v 3) (DE.b de_int))) (DE.b de_int)))) (da_cons (de_bin od_add (DE.b (de_bin od_add (DE.b (de_ix (db_v 3) (DE.b de_int))) (DE.b (de_bin od_mul (db_v 17) (DE.b (de_ix (db_v 3) (DE.b de_int))))))) (DE.b de_int)) da_nil))))))
  (dss_cons (ds_if (dt_cmp (od_ne hu) (DE.b (DF.de (df_lc (own := [("one", 11)]) rfl nd (DI.s (di_list (de_v 6))) (by first | exact (show blkC ["script", "dice", "neap", "row", "minute", "later", "some", "day", "highs", "dark", "counts", "one", "mine", "mill", "high", "runs", "tide", "number", "days", "light", "k"] (defScope s_law) _ [("one", 11)] = true by decide +kernel) | rfl) (fun s2 H2 C2 cl2 fp2 => (dg_name 11 nd)) (fun s2 H2 C2 cl2 fp2 => blkT hr fun hu tk hW => dts_nil) (fun s2 H2 C2 cl2 fp2 => blkE hr fun hu tk hW => (de_meth (ok_Tide_level T) (b_Tide_level T) T.cls0 (me_Tide_level T) (hr.mono (by decide)) tk hW (de_v 16) (da_cons (de_v 11) da_nil)))))) (DE.b (DF.de (df_lc (own := [("one", 11)]) rfl nd (DI.s (di_list (de_v 6))) (by first | exact (show blkC ["script", "dice", "neap", "row", "minute", "later", "some", "day", "highs", "dark", "counts", "one", "mine", "mill", "high", "runs", "tide", "number", "days", "light", "k"] (defScope s_law) _ [("one", 11)] = true by decide +kernel) | rfl) (fun s2 H2 C2 cl2 fp2 => (dg_name 11 nd)) (fun s2 H2 C2 cl2 fp2 => blkT hr fun hu tk hW => dts_nil) (fun s2 H2 C2 cl2 fp2 => blkE hr fun hu tk hW => (de_call (ok_law_level T) (b_law_level T) (k_law_level T) (g_law_level T) (hr.mono (by decide)) tk (da_cons (de_v 3) (da_cons (de_v 11) da_nil))))))) (nomark _)) (dss_one (ds_ret de_bl)) dss_nil)
  (dss_cons (ds_set 7 nd (de_call (ok_law_roll T) (b_law_roll T) (k_law_roll T) (g_law_roll T) (hr.mono (by decide)) tk (da_cons (de_v 1) (da_cons de_int da_nil))))
  (dss_cons (ds_setLc (own := [("k", 20)]) 8 rfl nd (DI.s (di_range1 T.f_range (da_cons de_int da_nil))) (by first | exact (show blkC ["script", "dice", "neap", "row", "minute", "later", "some", "day", "highs", "dark", "counts", "one", "mine", "mill", "high", "runs", "tide", "number", "days", "light", "k"] (defScope s_law) _ [("k", 20)] = true by decide +kernel) | rfl) (fun s2 H2 C2 cl2 fp2 => (dg_name 20 nd)) (fun s2 H2 C2 cl2 fp2 => blkT hr fun hu tk hW => dts_nil) (fun s2 H2 C2 cl2 fp2 => blkE hr fun hu tk hW => (de_bin od_sub (DE.b (de_bin od_add (DE.b (de_ix (db_v 3) (DE.b de_int))) (DE.b (de_bin od_mul (db_v 20) (DE.b (de_ix (db_v 3) (DE.b de_int))))))) (DE.b (de_bin od_mul (DE.b de_int) (db_v 7))))))
  (dss_cons (ds_if (dt_cmp (od_ne hu) (DE.b (de_bty (cd_list) (T.f_list) (by decide +kernel) (dab_cons (DE.b (de_meth (ok_Tide_on_day T) (b_Tide_on_day T) T.cls0 (me_Tide_on_day T) (hr.mono (by decide)) tk hW (de_v 16) (da_cons (de_v 7) da_nil))) dab_nil))) (DE.b (DF.de (df_lc (own := [("one", 11)]) rfl nd (DI.s (di_list (de_v 8))) (by first | exact (show blkC ["script", "dice", "neap", "row", "minute", "later", "some", "day", "highs", "dark", "counts", "one", "mine", "mill", "high", "runs", "tide", "number", "days", "light", "k"] (defScope s_law) _ [("one", 11)] = true by decide +kernel) | rfl) (fun s2 H2 C2 cl2 fp2 => (dg_name 11 nd)) (fun s2 H2 C2 cl2 fp2 => blkT hr fun hu tk hW => (dts_one (dt_ch od_le od_lt (DE.b de_int) (db_v 11) (DE.b de_int)))) (fun s2 H2 C2 cl2 fp2 => blkE hr fun hu tk hW => (de_v 11))))) (nomark _)) (dss_one (ds_ret de_bl)) dss_nil)
  (dss_cons (ds_asg (de_tup (da_cons (de_bin od_add (DE.b de_int) (DE.b (de_call (ok_law_roll T) (b_law_roll T) (k_law_roll T) (g_law_roll T) (hr.mono (by decide)) tk (da_cons (de_v 1) (da_cons de_int da_nil))))) (da_cons (de_call (ok_law_roll T) (b_law_roll T) (k_law_roll T) (g_law_roll T) (hr.mono (by decide)) tk (da_cons (de_v 1) (da_cons de_int da_nil))) da_nil))) (dg_tup rfl (dgs_cons (dg_name 18 nd) (dgs_cons (dg_name 19 nd) dgs_nil))))
  (dss_cons (ds_set 9 nd (de_bin od_add (DE.b (de_bin od_add (db_v 19) (DE.b de_int))) (DE.b (de_call (ok_law_roll T) (b_law_roll T) (k_law_roll T) (g_law_roll T) (hr.mono (by decide)) tk (da_cons (de_v 1) (da_cons de_int da_nil))))))
  (dss_cons (ds_setO 10 nd (df_lst da_nil))
  (dss_cons (ds_wip [false, true, false, true, false, false, false, false, false, true, true, false, false, false, false, false, true, false] (ds_forW [false, true, false, true, false, false, false, false, false, true, true, false, false, false, false, false, true, false] hP rfl (di_range1 T.f_range (da_cons (de_v 18) da_nil)) (dg_name 11 nd) (dss_wip [false, true, false, true, false, false, false, false, false, true, true, false, false, false, false, false, true, false] (dss_one (ds_mt PySem.F.plainAttrs_list PySem.F.slot_list_append PySem.F.type_list_append wm_append (dp_v 10) (da_cons (de_blt (cd_len) (T.f_len) (by decide +kernel) (dab_cons (DE.b (DF.de (df_lc (own := [("k", 20)]) rfl nd (DI.s (di_range1 T.f_range (da_cons de_int da_nil))) (by first | exact (show blkC ["script", "dice", "neap", "row", "minute", "later", "some", "day", "highs", "dark", "counts", "one", "mine", "mill", "high", "runs", "tide", "number", "days", "light", "k"] (defScope s_law) _ [("k", 20)] = true by decide +kernel) | rfl) (fun s2 H2 C2 cl2 fp2 => (dg_name 20 nd)) (fun s2 H2 C2 cl2 fp2 => blkT hr fun hu tk hW => (dts_one (dt_ch od_le od_lt (db_v 19) (DE.b (de_bin od_sub (DE.b (de_bin od_add (DE.b (de_ix (db_v 3) (DE.b de_int))) (DE.b (de_bin od_mul (db_v 20) (DE.b (de_ix (db_v 3) (DE.b de_int))))))) (DE.b (de_bin od_mul (DE.b de_int) (db_v 11))))) (db_v 9)))) (fun s2 H2 C2 cl2 fp2 => blkE hr fun hu tk hW => (de_v 20))))) dab_nil)) da_nil))))))
  (dss_cons (ds_if (dt_cmp (od_ne hu) (DE.b (de_bty (cd_list) (T.f_list) (by decide +kernel) (dab_cons (DE.b (de_meth (ok_Tide_best_days T) (b_Tide_best_days T) T.cls0 (me_Tide_best_days T) (hr.mono (by decide)) tk hW (de_v 16) (da_cons (de_v 18) (da_cons (de_v 19) (da_cons (de_v 9) da_nil))))) dab_nil))) (DE.b (DF.de (df_lc (own := [("one", 11)]) rfl nd (DI.s (di_range1 T.f_range (da_cons (de_v 18) da_nil))) (by first | exact (show blkC ["script", "dice", "neap", "row", "minute", "later", "some", "day", "highs", "dark", "counts", "one", "mine", "mill", "high", "runs", "tide", "number", "days", "light", "k"] (defScope s_law) _ [("one", 11)] = true by decide +kernel) | rfl) (fun s2 H2 C2 cl2 fp2 => (dg_name 11 nd)) (fun s2 H2 C2 cl2 fp2 => blkT hr fun hu tk hW => (dts_one (dt_cmp (od_eq hu) (DE.b (de_ix (db_v 10) (db_v 11))) (DE.b (de_blt (cd_max rfl hu) (T.f_max) (by decide +kernel) (dab_cons (db_v 10) dab_nil))) (nomark _)))) (fun s2 H2 C2 cl2 fp2 => blkE hr fun hu tk hW => (de_v 11))))) (nomark _)) (dss_one (ds_ret de_bl)) dss_nil)
  (dss_cons (ds_set 12 nd (de_tup (da_cons (de_call (ok_law_roll T) (b_law_roll T) (k_law_roll T) (g_law_roll T) (hr.mono (by decide)) tk (da_cons (de_v 1) (da_cons de_int da_nil))) (da_cons (de_bin od_add (DE.b de_int) (DE.b (de_call (ok_law_roll T) (b_law_roll T) (k_law_roll T) (g_law_roll T) (hr.mono (by decide)) tk (da_cons (de_v 1) (da_cons de_int da_nil))))) (da_cons (de_bin od_add (DE.b de_int) (DE.b (de_call (ok_law_roll T) (b_law_roll T) (k_law_roll T) (g_law_roll T) (hr.mono (by decide)) tk (da_cons (de_v 1) (da_cons de_int da_nil))))) (da_cons (de_call (ok_law_roll T) (b_law_roll T) (k_law_roll T) (g_law_roll T) (hr.mono (by decide)) tk (da_cons (de_v 1) (da_cons de_int da_nil))) da_nil))))))
  (dss_cons (ds_set 13 nd (DF.deN (df_make (ok_Mill_init T) (b_Mill_init T) (mk_Mill T) (g_Mill T) (hr.mono (by decide)) tk hW (da_cons (de_ix (db_v 12) (DE.b de_int)) (da_cons (de_ix (db_v 12) (DE.b de_int)) (da_cons (de_ix (db_v 12) (DE.b de_int)) (da_cons (de_ix (db_v 12) (DE.b de_int)) da_nil)))))))
  (dss_cons (ds_set 14 nd (de_call (ok_law_roll T) (b_law_roll T) (k_law_roll T) (g_law_roll T) (hr.mono (by decide)) tk (da_cons (de_v 1) (da_cons de_int da_nil))))
  (dss_cons (ds_if (DW.t (dw_or (dt_cmp (od_ne hu) (DE.b (de_meth (ok_Mill_filled T) (b_Mill_filled T) T.cls1 (me_Mill_filled T) (hr.mono (by decide)) tk hW (de_v 13) (da_cons (de_v 14) da_nil))) (DE.b (de_bin od_mul (DE.b (de_blt (cd_max2 rfl) (T.f_max) (by decide +kernel) (dab_cons (DE.b de_int) (dab_cons (DE.b (de_bin od_sub (db_v 14) (DE.b (de_ix (db_v 12) (DE.b de_int))))) dab_nil)))) (DE.b (de_ix (db_v 12) (DE.b de_int))))) (nomark _)) (dw_or1 (dt_cmp (od_ne hu) (DE.b (de_meth0 (ok_Mill_key T) (b_Mill_key T) T.cls1 (me_Mill_key T) (hr.mono (by decide)) tk hW (de_v 13))) (db_v 12) (nomark _))))) (dss_one (ds_ret de_bl)) dss_nil)
  (dss_cons (ds_set 15 nd (DF.han (df_lst da_nil)))
  (dss_one (ds_if (dt_not (dt_val (de_call (ok_law_rest1 T) (b_law_rest1 T) (k_law_rest1 T) (g_law_rest1 T) (hr.mono (by decide)) tk (da_cons (de_v 1) (da_cons (de_v 3) (da_cons (de_v 16) (da_cons (de_v 12) (da_cons (de_v 13) (da_cons (de_v 14) (da_cons (de_v 15) da_nil)))))))))) (dss_one (ds_ret de_bl)) dss_nil))))))))))))))))))))))))))))
  (dss_one (ds_ret de_bl)))
end
end L13
set_option Elab.async false
set_option linter.all false
set_option maxRecDepth 100000
set_option maxHeartbeats 0
namespace L13
open PySem PySem.Spec PyProof.Rows L2 DL
abbrev R : PySem.W.OpenRow := PySem.W.OpenLaw.row PySem.Challenge.rw_millhall_k13_tides
abbrev hk : PySem.W.Hook := He.hookX 5 fa fn [] tf ex
def ob (s : PySem.W.SharedT) : He.AlX := He.obsX 5 fa fn [] tf ex (HandSHeadRun.getT s)
theorem ob_eq (s : PySem.W.SharedT) : ob s = hk.obs s.abs := He.obsX_eq (HandSHeadRun.getT_eq s)
def names0 : List PySem.Str := ["MillFault", "BadSize", "BadPlan", "NoSuch", "NoRoom", "NoWay", "Short", "BadText", "BadDeed", "Tide", "Mill", "later_each_day", "twelfths", "read_height", "_law_dice", "_law_roll", "_law_rounds", "_law_told", "_law_height", "_law_level", "_law_cases1", "_law_rest2", "_law_rest1"]
def names : List PySem.Str := names0
theorem run (w : World) : HandSHeadRun.RunEq R (PySem.W.view R.prog [26]) hk ob 200000 names w := by
  intro os
  kernel_rfl
end L13
open PySem PySem.W PySem.Calls PyProof.Rows in
theorem L13.holds_of (hlaw : ∀ ns : List Int, ns.length ≤ 63 → ∃ s, L13.m_law [.scr ns] [] = .ok (.bl true) s) : PySem.Challenge.rw_millhall_k13_tides.Holds := by
  w_on; o_law
  refine HandSHeadRun.head_any (r := OpenLaw.row PySem.Challenge.rw_millhall_k13_tides) (q := view (OpenLaw.row PySem.Challenge.rw_millhall_k13_tides).prog [26]) (H := L13.hk) (ob := L13.ob) (M := 200000) (loose := L13.names) (d := HandSHeadRun.topDef (OpenLaw.row PySem.Challenge.rw_millhall_k13_tides).prog 26) (kwd := []) L13.ob_eq
    (by kernel_rfl) (fun s => by kernel_rfl) L13.run (by kernel_rfl) (by kernel_rfl) (by kernel_rfl) (by rfl) (by first | assumption | decide +kernel) (by decide +kernel) ⟨rfl, rfl, rfl, rfl, rfl, by decide +kernel⟩ ?hw ?hc
  case hw => w_witness2
  case hc =>
    refine LamX.walk_ofTsE (l := PySem.Challenge.rw_millhall_k13_tides) (n := 63) (k := 11) (x := "script") (CX := fun w => L2.CX PySem.Challenge.rw_millhall_k13_tides.prog w) rfl (by decide) (by kernel_rfl) ⟨rfl, by decide, by decide⟩ ?F (fun _ _ _ _ _ z => DL.cx_no z)
    intro w mg fa h Y G hmg0
    obtain ⟨K, KX, c⟩ := Y
    have T0 : ∀ base : Heap, (∀ p ∈ L13.tf, LamX.TabB base mg (He.cT K p).1 (He.cT K p).2) → L13.Txt w K mg base h := fun base TB => ⟨KX, G, c, TB⟩
    have e0 := He.glo_ok KX G (c.t.d.fact (L13.fa.findIdx fun f => match f with | .glo x => x == "law" | _ => false) (f := .glo "law") rfl)
    have hmg : mg ("law" : PySem.Str) = some (.ref fa) := by
      have e : (HandSHeadRun.topDef (OpenLaw.row PySem.Challenge.rw_millhall_k13_tides).prog 26).name = ("law" : PySem.Str) := by kernel_rfl
      rw [← e]
      exact hmg0
    have ea := hmg.symm.trans e0
    cases ea
    have F : L2.Fun K "law" "law" L13.s_law (He.fAd K ("law", none)) _ := DL.funOfD (Classical.choose_spec (c.t.d.def_ 27 (d := L13.d_law) rfl))
    refine ⟨K, KX, _, L13.tf.map (He.cT K), DL.SpD K (L13.MM K) 1 L13.m_law, fun p hp => ?_, fun p hp => ?_, fun p hp => ?_, DL.binds_one F (fun _ _ _ _ _ _ _ => rfl), fun H a ns hl _ hT hS => DL.law_sp _ hlaw (fun p hp => ?_) H a ns hl hT hS, fun base hK hG TB => L13.ok_law (T0 base fun p hp => TB _ (List.mem_map.mpr ⟨p, hp, rfl⟩))⟩
    · obtain ⟨q, hq, rfl⟩ := List.mem_map.mp hp
      exact c.empty q hq
    · obtain ⟨q, hq, rfl⟩ := List.mem_map.mp hp
      exact c.out q hq
    · obtain ⟨q, hq, rfl⟩ := List.mem_map.mp hp
      exact PySem.W.codeHd_of_K KX (c.hd q hq)
    · simp only [L13.MM, List.mem_cons, List.not_mem_nil, or_false] at hp
      rcases hp with rfl | rfl | rfl | rfl | rfl
      · exact ⟨_, List.mem_map.mpr ⟨("Tide", some "best_days"), by simp [L13.tf], rfl⟩, rfl⟩
      · exact ⟨_, List.mem_map.mpr ⟨("Mill", some "year"), by simp [L13.tf], rfl⟩, rfl⟩
      · exact ⟨_, List.mem_map.mpr ⟨("read_height", none), by simp [L13.tf], rfl⟩, rfl⟩
      · exact ⟨_, List.mem_map.mpr ⟨("_law_cases1", none), by simp [L13.tf], rfl⟩, rfl⟩
      · exact ⟨_, List.mem_map.mpr ⟨("_law_rest2", none), by simp [L13.tf], rfl⟩, rfl⟩
set_option Elab.async false
set_option linter.all false
set_option maxRecDepth 100000
set_option maxHeartbeats 2000000
namespace L13
open PySem L2 DL DR
local macro_rules | `(tactic| walk_at "dl") => `(tactic| simp -implicitDefEqProofs (disch := first | omega | assumption | (simp only [okN, okNL, okNL_mi, D.has, hasL, flt, isI, isS, List.all_cons, List.all_nil, Bool.or_true, Bool.true_or, Bool.false_or, Bool.false_and, Bool.and_self, Bool.and_true, Bool.true_and]; done) | (simp only [List.length_cons, List.length_nil, List.length_append, List.length_map, List.length_range]; omega) | (simp only [okN, okNL, Bool.and_self, Bool.and_true, Bool.true_and]; decide +kernel) | decide +kernel | fail) only [ seqB_eq, then_nx, then_rt, then_bk, then_ct, then_ex, then_bad, bind_ok, bind_ex, bind_bad, toF_ok, toF_ex, toF_bad, ofO_some, ofO_none, nx_ok, cD_eq, vD_0, vD_s, vB_0, vB_o, vB_s, bopD_eq, uopD_eq, tstD_eq, asB_bl, asI_int, deref_int, deref_bl, deref_str, deref_non, deref_tup, deref_lst, deref_dic, deref_obj, deref_scr, deref_han, chD_eq, ch3D_eq, andT_eq, orT_eq, notT_eq, ifD_eq, andD_eq, orD_eq, notD_eq, nilA_eq, consA_eq, tupD_eq, lstD_eq, fldD_eq, bltD_eq, partN_eq, partS_eq, sliceD_eq, callD_eq, gateD_eq, methD_eq, isC_obj, calmD_eq, calmN_eq, calmK_obj, hanD_eq, notObj_l, notObj_t, notObj_d, setB_eq, setOB_eq, setF_eq, setOF_eq, ifB_eq, retB_eq, retN_eq, dropB_eq, nextB_eq, breakB_eq, contB_eq, raiseA_eq, augB_eq, frzB_eq, frzL_nil, frzL_cons, frzE_zl, frzE_zd, frzE_zv, frzE_zn, frzE_s, asgB_eq, asg2B_eq, parB_eq, putAll_nil, putAll_cons, asgFB_eq, nilF_eq, consV_eq, consO_eq, gN_eq, gsN_eq, gsC_eq, gT_eq, fnD_eq, fnK_nx, fnK_rt, fnK_ex, fnK_bad, inD_eq, inK_nx, inK_ex, toldD_eq,  ite_yes, ite_no, dec_yes, dec_no, plV_eq, plK_o, plK_h, plE_eq, plEK_h, wrF_slot, wrF_han, wrS_o, wrH_s, wrSU_s, wrHU_s, fldB_eq, fldU_eq, stB_eq, stAK_s, stAugB_eq, fldAugB_eq, plcD_slot, plcD_han, plS_o, mtB_eq, mthD_eq, isLst_l, appU_l, setL_l, getL_l, ixN_ok, atI_0, atI_1, atI_2, atI_3, atI_4, atI_5, atI_6, atI_7, atI_8, atI_9, atI_10, atI_11, atI_12, atI_13, atI_14, atI_15, forB_eq, rngD_eq, iterD_eq, rng1_int, rng2_int, scrO_l, scrO_s, lstO_l, tupO_l, putK_some, goK_nx, goK_ct, goK_bk, goK_rt, goK_ex, lcD_eq, wipeE_nil, wipeE_cons, yesT_eq, lcPut_some, wipB_eq, forW_eq, preB_eq, wip_nx, wip_bk, wip_ct, wip_rt, wip_ex, wip_bad, keep_t, keep_f, keep_n, asgO_s, asgK_eq, asgFK_eq, putS_nil, putS_v, putS_o, and_self, ite_self, wrS_o, wrSU_s, true_and, and_true, false_and, and_false, decide_true, decide_false, Int.reduceLT, Int.reduceLE, Int.reduceEq, Int.reduceAdd, Int.reduceSub, Int.reduceMul, Int.reduceNeg, Int.reduceDiv, Int.reduceMod, Int.reduceNe, turnF_eq,
  cut_to, cut_from, cut_both, opCut_l, opCut_t, opCut_s, opPow_int, opAdd_tup, opAdd_lst, opEq_ts, opEq_ls, opEq_st, opEq_sl, opNe_ts, opNe_ls, opNe_st, opNe_sl, opEq_ss, opNe_ss, opEq_nn, opNe_self, opEq_self, opNe_nn, opNe_lnil, opEq_lnil, opNe_is, opEq_is, opNe_si, opEq_si, opNe_bb, opEq_bb, opAdd_int, opAug_int, opSub_int, opMul_r, opMul_l, opMulI_r, opMulI_l, opDiv_int, opMod_int, opLt_int, opLe_int, opGt_int, opGe_int, opEq_int, opNe_int, min2_int, max2_int, min3_int, min4_int, opNeg_int, listO_l, listO_t, tupleO_l, tupleO_t, zipO_ll, zipO_tt, enumO_l, lenO_l, lenO_t, opIn_lst, opIn_tup, opNin_lst, opNin_tup, eqB_ss, eqB_ii, List.any_cons, List.any_nil, gSumD_eq, gAnyD_eq, anyF_nil, anyPut_some, absO_int, intO_int, intO_bl, fldO_eq, opIx_t, opIx_l,
  Bool.true_and, Bool.and_true, Bool.false_and, Bool.and_false, List.map_cons, List.map_nil, List.length_cons, List.length_nil, List.set_cons_zero, List.set_cons_succ, List.getElem?_cons_zero, List.getElem?_cons_succ, Option.map_some, Option.bind_some, decide_eq_true_eq, Bool.not_eq_true', decide_eq_false_iff_not, Bool.not_true, Bool.false_eq_true, reduceCtorEq, Bool.not_false, ite_true, ite_false, if_true, if_false, Nat.reduceAdd, Nat.reduceLeDiff, Nat.reduceLT, Nat.reduceSub, beq_self_eq_true, Nat.reduceEqDiff, reduceIte, Int.reduceToNat, Int.reducePow, List.take_zero, List.take_nil, List.drop_nil, List.drop_zero, List.take_succ_cons, List.drop_succ_cons, forF_nil, padE, List.length_append, List.replicate, List.append_nil, List.cons_append, List.nil_append])
abbrev tide (f b sp ne d : Int) : D := .obj 0 [.int f, .int b, .int sp, .int ne, .int d]
abbrev rowT (f b sp ne d : Int) : D := .tup [.int f, .int b, .int sp, .int ne, .int d]
abbrev Td (f b sp ne d : Int) : Prop := 0 ≤ f ∧ f < 800 ∧ 600 ≤ b ∧ b < 800 ∧ 0 ≤ ne ∧ ne ≤ sp ∧ sp ≤ 600 ∧ 2 ≤ d ∧ d ≤ 17
theorem init_spec (s : DS) (f b sp ne d : Int) (H : Td f b sp ne d) : m_Tide_init [.int f, .int b, .int sp, .int ne, .int d] s = .ok (tide f b sp ne d) s := by
  unfold m_Tide_init B_Tide_init tide
  walk_at "dl"
theorem init_bad (s : DS) : m_Tide_init [.int 0, .int 59, .int 1, .int 1, .int 2] s = .ex 2 [] s := by
  unfold m_Tide_init B_Tide_init
  walk_at "dl"
theorem key_spec (s : DS) (f b sp ne d : Int) : m_Tide_key [tide f b sp ne d] s = .ok (rowT f b sp ne d) s := by
  unfold m_Tide_key B_Tide_key
  walk_at "dl"
theorem high_spec (s : DS) (f b sp ne d n : Int) (H : Td f b sp ne d) (h : 0 ≤ n) : m_Tide_high [tide f b sp ne d, .int n] s = .ok (.int (f + n * b)) s := by
  unfold m_Tide_high B_Tide_high
  walk_at "dl"
theorem high_bad (s : DS) (f b sp ne d : Int) : m_Tide_high [tide f b sp ne d, .int (-1)] s = .ex 1 [] s := by
  unfold m_Tide_high B_Tide_high
  walk_at "dl"
/-! the first high water at a minute or behind it -/
def nI (f b m : Int) : Int := max 0 (0 - (f - m) / b)
theorem nI_spec {f b m : Int} (hb : 0 < b) : 0 ≤ nI f b m ∧ m ≤ f + nI f b m * b ∧ (nI f b m = 0 ∨ f + (nI f b m - 1) * b < m) := by
  have h1 := Int.emod_add_mul_ediv (f - m) b
  have h2 := Int.emod_nonneg (f - m) (show b ≠ 0 by omega)
  have h3 := Int.emod_lt_of_pos (f - m) hb
  unfold nI
  generalize hq : (f - m) / b = q at *
  generalize (f - m) % b = r at *
  have e1 : (0 - q) * b = - (b * q) := by rw [Int.mul_comm b q, Int.sub_mul]; omega
  have e2 : (0 - q - 1) * b = - (b * q) - b := by rw [Int.sub_mul, e1]; omega
  by_cases h0 : 0 - q ≤ 0
  · rw [show max 0 (0 - q) = 0 by omega]
    refine ⟨by omega, ?_, .inl rfl⟩
    have : 0 ≤ b * q := Int.mul_nonneg (by omega) (by omega)
    omega
  · rw [show max 0 (0 - q) = 0 - q by omega, e1, e2]
    exact ⟨by omega, by omega, .inr (by omega)⟩
theorem nI_of {f b m k : Int} (hb : 0 < b) (h0 : 0 ≤ k) (h1 : m ≤ f + k * b) (h2 : k = 0 ∨ f + (k - 1) * b < m) : nI f b m = k := by
  obtain ⟨a0, a1, a2⟩ := nI_spec (f := f) (m := m) hb
  generalize nI f b m = n at *
  by_cases h3 : n < k
  · have : n * b ≤ (k - 1) * b := Int.mul_le_mul_of_nonneg_right (by omega) (by omega)
    omega
  · by_cases h4 : k < n
    · have : k * b ≤ (n - 1) * b := Int.mul_le_mul_of_nonneg_right (by omega) (by omega)
      omega
    · omega
theorem nI_iff {f b m k : Int} (hb : 0 < b) (h0 : 0 ≤ k) : m ≤ f + k * b ↔ nI f b m ≤ k := by
  obtain ⟨a0, a1, a2⟩ := nI_spec (f := f) (m := m) hb
  generalize nI f b m = n at *
  constructor
  · intro h
    by_cases h4 : k < n
    · have : k * b ≤ (n - 1) * b := Int.mul_le_mul_of_nonneg_right (by omega) (by omega)
      omega
    · omega
  · intro h
    have : n * b ≤ k * b := Int.mul_le_mul_of_nonneg_right h (by omega)
    omega
theorem nI_bd {f b m : Int} {c : Nat} (hf : 0 ≤ f) (hb : 600 ≤ b) (h : m ≤ 600 * c) : nI f b m ≤ c := by
  rw [← nI_iff (by omega) (by omega)]
  have : (c : Int) * 600 ≤ c * b := Int.mul_le_mul_of_nonneg_left hb (by omega)
  omega
local macro_rules | `(tactic| walk_at "dl1") => `(tactic| simp -implicitDefEqProofs (disch := first | omega | assumption | (simp only [okN, okNL, okNL_mi, D.has, hasL, flt, isI, isS, List.all_cons, List.all_nil, Bool.or_true, Bool.true_or, Bool.false_or, Bool.false_and, Bool.and_self, Bool.and_true, Bool.true_and]; done) | (simp only [List.length_cons, List.length_nil, List.length_append, List.length_map, List.length_range]; omega) | (simp only [okN, okNL, Bool.and_self, Bool.and_true, Bool.true_and]; decide +kernel) | decide +kernel | fail) only [high_spec, init_spec, seqB_eq, then_nx, then_rt, then_bk, then_ct, then_ex, then_bad, bind_ok, bind_ex, bind_bad, toF_ok, toF_ex, toF_bad, ofO_some, ofO_none, nx_ok, cD_eq, vD_0, vD_s, vB_0, vB_o, vB_s, bopD_eq, uopD_eq, tstD_eq, asB_bl, asI_int, deref_int, deref_bl, deref_str, deref_non, deref_tup, deref_lst, deref_dic, deref_obj, deref_scr, deref_han, chD_eq, ch3D_eq, andT_eq, orT_eq, notT_eq, ifD_eq, andD_eq, orD_eq, notD_eq, nilA_eq, consA_eq, tupD_eq, lstD_eq, fldD_eq, bltD_eq, partN_eq, partS_eq, sliceD_eq, callD_eq, gateD_eq, methD_eq, isC_obj, calmD_eq, calmN_eq, calmK_obj, hanD_eq, notObj_l, notObj_t, notObj_d, setB_eq, setOB_eq, setF_eq, setOF_eq, ifB_eq, retB_eq, retN_eq, dropB_eq, nextB_eq, breakB_eq, contB_eq, raiseA_eq, augB_eq, frzB_eq, frzL_nil, frzL_cons, frzE_zl, frzE_zd, frzE_zv, frzE_zn, frzE_s, asgB_eq, asg2B_eq, parB_eq, putAll_nil, putAll_cons, asgFB_eq, nilF_eq, consV_eq, consO_eq, gN_eq, gsN_eq, gsC_eq, gT_eq, fnD_eq, fnK_nx, fnK_rt, fnK_ex, fnK_bad, inD_eq, inK_nx, inK_ex, toldD_eq,  ite_yes, ite_no, dec_yes, dec_no, plV_eq, plK_o, plK_h, plE_eq, plEK_h, wrF_slot, wrF_han, wrS_o, wrH_s, wrSU_s, wrHU_s, fldB_eq, fldU_eq, stB_eq, stAK_s, stAugB_eq, fldAugB_eq, plcD_slot, plcD_han, plS_o, mtB_eq, mthD_eq, isLst_l, appU_l, setL_l, getL_l, ixN_ok, atI_0, atI_1, atI_2, atI_3, atI_4, atI_5, atI_6, atI_7, atI_8, atI_9, atI_10, atI_11, atI_12, atI_13, atI_14, atI_15, forB_eq, rngD_eq, iterD_eq, rng1_int, rng2_int, scrO_l, scrO_s, lstO_l, tupO_l, putK_some, goK_nx, goK_ct, goK_bk, goK_rt, goK_ex, lcD_eq, wipeE_nil, wipeE_cons, yesT_eq, lcPut_some, wipB_eq, forW_eq, preB_eq, wip_nx, wip_bk, wip_ct, wip_rt, wip_ex, wip_bad, keep_t, keep_f, keep_n, asgO_s, asgK_eq, asgFK_eq, putS_nil, putS_v, putS_o, and_self, ite_self, wrS_o, wrSU_s, true_and, and_true, false_and, and_false, decide_true, decide_false, Int.reduceLT, Int.reduceLE, Int.reduceEq, Int.reduceAdd, Int.reduceSub, Int.reduceMul, Int.reduceNeg, Int.reduceDiv, Int.reduceMod, Int.reduceNe, turnF_eq,
  cut_to, cut_from, cut_both, opCut_l, opCut_t, opCut_s, opPow_int, opAdd_tup, opAdd_lst, opEq_ts, opEq_ls, opEq_st, opEq_sl, opNe_ts, opNe_ls, opNe_st, opNe_sl, opEq_ss, opNe_ss, opEq_nn, opNe_self, opEq_self, opNe_nn, opNe_lnil, opEq_lnil, opNe_is, opEq_is, opNe_si, opEq_si, opNe_bb, opEq_bb, opAdd_int, opAug_int, opSub_int, opMul_r, opMul_l, opMulI_r, opMulI_l, opDiv_int, opMod_int, opLt_int, opLe_int, opGt_int, opGe_int, opEq_int, opNe_int, min2_int, max2_int, min3_int, min4_int, opNeg_int, listO_l, listO_t, tupleO_l, tupleO_t, zipO_ll, zipO_tt, enumO_l, lenO_l, lenO_t, opIn_lst, opIn_tup, opNin_lst, opNin_tup, eqB_ss, eqB_ii, List.any_cons, List.any_nil, gSumD_eq, gAnyD_eq, anyF_nil, anyPut_some, absO_int, intO_int, intO_bl, fldO_eq, opIx_t, opIx_l,
  Bool.true_and, Bool.and_true, Bool.false_and, Bool.and_false, List.map_cons, List.map_nil, List.length_cons, List.length_nil, List.set_cons_zero, List.set_cons_succ, List.getElem?_cons_zero, List.getElem?_cons_succ, Option.map_some, Option.bind_some, decide_eq_true_eq, Bool.not_eq_true', decide_eq_false_iff_not, Bool.not_true, Bool.false_eq_true, reduceCtorEq, Bool.not_false, ite_true, ite_false, if_true, if_false, Nat.reduceAdd, Nat.reduceLeDiff, Nat.reduceLT, Nat.reduceSub, beq_self_eq_true, Nat.reduceEqDiff, reduceIte, Int.reduceToNat, Int.reducePow, List.take_zero, List.take_nil, List.drop_nil, List.drop_zero, List.take_succ_cons, List.drop_succ_cons, forF_nil, padE, List.length_append, List.replicate, List.append_nil, List.cons_append, List.nil_append])
theorem next_spec (s : DS) (f b sp ne d m : Int) (H : Td f b sp ne d) : m_Tide_next_high [tide f b sp ne d, .int m] s = .ok (.tup [.int (nI f b m), .int (f + nI f b m * b)]) s := by
  have h0 := (nI_spec (f := f) (m := m) (show 0 < b by omega)).1
  unfold nI at *
  unfold m_Tide_next_high B_Tide_next_high
  walk_at "dl1"
def hI (f b sp ne d n : Int) : Int := sp - (sp - ne) * 2 * min ((f + n * b) / 1440 % d) (d - (f + n * b) / 1440 % d) / d
theorem height_spec (s : DS) (f b sp ne d n : Int) (H : Td f b sp ne d) (h : 0 ≤ n) : m_Tide_height [tide f b sp ne d, .int n] s = .ok (.int (hI f b sp ne d n)) s := by
  unfold m_Tide_height B_Tide_height hI
  walk_at "dl1"
theorem lheight_spec (s : DS) (f b sp ne d n : Int) (H : Td f b sp ne d) : m_law_height [rowT f b sp ne d, .int n] s = .ok (.int (hI f b sp ne d n)) s := by
  unfold m_law_height B_law_height hI
  walk_at "dl1"
/-! the sea's level -/
def lvI (f b sp ne d m : Int) : Int := if 0 < nI f b m ∧ m - (f + nI f b m * b - b) ≤ b / 2 then hI f b sp ne d (nI f b m - 1) * (b / 2 - (m - (f + nI f b m * b - b))) / (b / 2) else hI f b sp ne d (nI f b m) * max 0 (b / 2 - (f + nI f b m * b - m)) / (b / 2)
local macro_rules | `(tactic| walk_at "dl2") => `(tactic| simp -implicitDefEqProofs (disch := first | omega | assumption | (simp only [okN, okNL, okNL_mi, D.has, hasL, flt, isI, isS, List.all_cons, List.all_nil, Bool.or_true, Bool.true_or, Bool.false_or, Bool.false_and, Bool.and_self, Bool.and_true, Bool.true_and]; done) | (simp only [List.length_cons, List.length_nil, List.length_append, List.length_map, List.length_range]; omega) | (simp only [okN, okNL, Bool.and_self, Bool.and_true, Bool.true_and]; decide +kernel) | decide +kernel | fail) only [high_spec, init_spec, next_spec, height_spec, lheight_spec, seqB_eq, then_nx, then_rt, then_bk, then_ct, then_ex, then_bad, bind_ok, bind_ex, bind_bad, toF_ok, toF_ex, toF_bad, ofO_some, ofO_none, nx_ok, cD_eq, vD_0, vD_s, vB_0, vB_o, vB_s, bopD_eq, uopD_eq, tstD_eq, asB_bl, asI_int, deref_int, deref_bl, deref_str, deref_non, deref_tup, deref_lst, deref_dic, deref_obj, deref_scr, deref_han, chD_eq, ch3D_eq, andT_eq, orT_eq, notT_eq, ifD_eq, andD_eq, orD_eq, notD_eq, nilA_eq, consA_eq, tupD_eq, lstD_eq, fldD_eq, bltD_eq, partN_eq, partS_eq, sliceD_eq, callD_eq, gateD_eq, methD_eq, isC_obj, calmD_eq, calmN_eq, calmK_obj, hanD_eq, notObj_l, notObj_t, notObj_d, setB_eq, setOB_eq, setF_eq, setOF_eq, ifB_eq, retB_eq, retN_eq, dropB_eq, nextB_eq, breakB_eq, contB_eq, raiseA_eq, augB_eq, frzB_eq, frzL_nil, frzL_cons, frzE_zl, frzE_zd, frzE_zv, frzE_zn, frzE_s, asgB_eq, asg2B_eq, parB_eq, putAll_nil, putAll_cons, asgFB_eq, nilF_eq, consV_eq, consO_eq, gN_eq, gsN_eq, gsC_eq, gT_eq, fnD_eq, fnK_nx, fnK_rt, fnK_ex, fnK_bad, inD_eq, inK_nx, inK_ex, toldD_eq,  ite_yes, ite_no, dec_yes, dec_no, plV_eq, plK_o, plK_h, plE_eq, plEK_h, wrF_slot, wrF_han, wrS_o, wrH_s, wrSU_s, wrHU_s, fldB_eq, fldU_eq, stB_eq, stAK_s, stAugB_eq, fldAugB_eq, plcD_slot, plcD_han, plS_o, mtB_eq, mthD_eq, isLst_l, appU_l, setL_l, getL_l, ixN_ok, atI_0, atI_1, atI_2, atI_3, atI_4, atI_5, atI_6, atI_7, atI_8, atI_9, atI_10, atI_11, atI_12, atI_13, atI_14, atI_15, forB_eq, rngD_eq, iterD_eq, rng1_int, rng2_int, scrO_l, scrO_s, lstO_l, tupO_l, putK_some, goK_nx, goK_ct, goK_bk, goK_rt, goK_ex, lcD_eq, wipeE_nil, wipeE_cons, yesT_eq, lcPut_some, wipB_eq, forW_eq, preB_eq, wip_nx, wip_bk, wip_ct, wip_rt, wip_ex, wip_bad, keep_t, keep_f, keep_n, asgO_s, asgK_eq, asgFK_eq, putS_nil, putS_v, putS_o, and_self, ite_self, wrS_o, wrSU_s, true_and, and_true, false_and, and_false, decide_true, decide_false, Int.reduceLT, Int.reduceLE, Int.reduceEq, Int.reduceAdd, Int.reduceSub, Int.reduceMul, Int.reduceNeg, Int.reduceDiv, Int.reduceMod, Int.reduceNe, turnF_eq,
  cut_to, cut_from, cut_both, opCut_l, opCut_t, opCut_s, opPow_int, opAdd_tup, opAdd_lst, opEq_ts, opEq_ls, opEq_st, opEq_sl, opNe_ts, opNe_ls, opNe_st, opNe_sl, opEq_ss, opNe_ss, opEq_nn, opNe_self, opEq_self, opNe_nn, opNe_lnil, opEq_lnil, opNe_is, opEq_is, opNe_si, opEq_si, opNe_bb, opEq_bb, opAdd_int, opAug_int, opSub_int, opMul_r, opMul_l, opMulI_r, opMulI_l, opDiv_int, opMod_int, opLt_int, opLe_int, opGt_int, opGe_int, opEq_int, opNe_int, min2_int, max2_int, min3_int, min4_int, opNeg_int, listO_l, listO_t, tupleO_l, tupleO_t, zipO_ll, zipO_tt, enumO_l, lenO_l, lenO_t, opIn_lst, opIn_tup, opNin_lst, opNin_tup, eqB_ss, eqB_ii, List.any_cons, List.any_nil, gSumD_eq, gAnyD_eq, anyF_nil, anyPut_some, absO_int, intO_int, intO_bl, fldO_eq, opIx_t, opIx_l,
  Bool.true_and, Bool.and_true, Bool.false_and, Bool.and_false, List.map_cons, List.map_nil, List.length_cons, List.length_nil, List.set_cons_zero, List.set_cons_succ, List.getElem?_cons_zero, List.getElem?_cons_succ, Option.map_some, Option.bind_some, decide_eq_true_eq, Bool.not_eq_true', decide_eq_false_iff_not, Bool.not_true, Bool.false_eq_true, reduceCtorEq, Bool.not_false, ite_true, ite_false, if_true, if_false, Nat.reduceAdd, Nat.reduceLeDiff, Nat.reduceLT, Nat.reduceSub, beq_self_eq_true, Nat.reduceEqDiff, reduceIte, Int.reduceToNat, Int.reducePow, List.take_zero, List.take_nil, List.drop_nil, List.drop_zero, List.take_succ_cons, List.drop_succ_cons, forF_nil, padE, List.length_append, List.replicate, List.append_nil, List.cons_append, List.nil_append])
theorem level_spec (s : DS) (f b sp ne d m : Int) (H : Td f b sp ne d) : m_Tide_level [tide f b sp ne d, .int m] s = .ok (.int (lvI f b sp ne d m)) s := by
  obtain ⟨a0, a1, a2⟩ := nI_spec (f := f) (m := m) (show 0 < b by omega)
  have a3 : (nI f b m - 1) * b = nI f b m * b - b := by rw [Int.sub_mul]; omega
  unfold m_Tide_level B_Tide_level lvI
  by_cases h1 : 0 < nI f b m
  · by_cases h2 : m - (f + nI f b m * b - b) ≤ b / 2
    · rw [if_pos ⟨h1, h2⟩]
      walk_at "dl2"
    · rw [if_neg (fun z => h2 z.2)]
      walk_at "dl2"
  · rw [if_neg (fun z => h1 z.1)]
    walk_at "dl2"
local macro_rules | `(tactic| walk_at "dl3") => `(tactic| simp -implicitDefEqProofs (disch := first | omega | assumption | (simp only [okN, okNL, okNL_mi, D.has, hasL, flt, isI, isS, List.all_cons, List.all_nil, Bool.or_true, Bool.true_or, Bool.false_or, Bool.false_and, Bool.and_self, Bool.and_true, Bool.true_and]; done) | (simp only [List.length_cons, List.length_nil, List.length_append, List.length_map, List.length_range]; omega) | (simp only [okN, okNL, Bool.and_self, Bool.and_true, Bool.true_and]; decide +kernel) | decide +kernel | fail) only [high_spec, init_spec, next_spec, height_spec, lheight_spec, List.range_zero, List.length_map, List.length_range, seqB_eq, then_nx, then_rt, then_bk, then_ct, then_ex, then_bad, bind_ok, bind_ex, bind_bad, toF_ok, toF_ex, toF_bad, ofO_some, ofO_none, nx_ok, cD_eq, vD_0, vD_s, vB_0, vB_o, vB_s, bopD_eq, uopD_eq, tstD_eq, asB_bl, asI_int, deref_int, deref_bl, deref_str, deref_non, deref_tup, deref_lst, deref_dic, deref_obj, deref_scr, deref_han, chD_eq, ch3D_eq, andT_eq, orT_eq, notT_eq, ifD_eq, andD_eq, orD_eq, notD_eq, nilA_eq, consA_eq, tupD_eq, lstD_eq, fldD_eq, bltD_eq, partN_eq, partS_eq, sliceD_eq, callD_eq, gateD_eq, methD_eq, isC_obj, calmD_eq, calmN_eq, calmK_obj, hanD_eq, notObj_l, notObj_t, notObj_d, setB_eq, setOB_eq, setF_eq, setOF_eq, ifB_eq, retB_eq, retN_eq, dropB_eq, nextB_eq, breakB_eq, contB_eq, raiseA_eq, augB_eq, frzB_eq, frzL_nil, frzL_cons, frzE_zl, frzE_zd, frzE_zv, frzE_zn, frzE_s, asgB_eq, asg2B_eq, parB_eq, putAll_nil, putAll_cons, asgFB_eq, nilF_eq, consV_eq, consO_eq, gN_eq, gsN_eq, gsC_eq, gT_eq, fnD_eq, fnK_nx, fnK_rt, fnK_ex, fnK_bad, inD_eq, inK_nx, inK_ex, toldD_eq,  ite_yes, ite_no, dec_yes, dec_no, plV_eq, plK_o, plK_h, plE_eq, plEK_h, wrF_slot, wrF_han, wrS_o, wrH_s, wrSU_s, wrHU_s, fldB_eq, fldU_eq, stB_eq, stAK_s, stAugB_eq, fldAugB_eq, plcD_slot, plcD_han, plS_o, mtB_eq, mthD_eq, isLst_l, appU_l, setL_l, getL_l, ixN_ok, atI_0, atI_1, atI_2, atI_3, atI_4, atI_5, atI_6, atI_7, atI_8, atI_9, atI_10, atI_11, atI_12, atI_13, atI_14, atI_15, forB_eq, rngD_eq, iterD_eq, rng1_int, rng2_int, scrO_l, scrO_s, lstO_l, tupO_l, putK_some, goK_nx, goK_ct, goK_bk, goK_rt, goK_ex, lcD_eq, wipeE_nil, wipeE_cons, yesT_eq, lcPut_some, wipB_eq, forW_eq, preB_eq, wip_nx, wip_bk, wip_ct, wip_rt, wip_ex, wip_bad, keep_t, keep_f, keep_n, asgO_s, asgK_eq, asgFK_eq, putS_nil, putS_v, putS_o, and_self, ite_self, wrS_o, wrSU_s, true_and, and_true, false_and, and_false, decide_true, decide_false, Int.reduceLT, Int.reduceLE, Int.reduceEq, Int.reduceAdd, Int.reduceSub, Int.reduceMul, Int.reduceNeg, Int.reduceDiv, Int.reduceMod, Int.reduceNe, turnF_eq,
  cut_to, cut_from, cut_both, opCut_l, opCut_t, opCut_s, opPow_int, opAdd_tup, opAdd_lst, opEq_ts, opEq_ls, opEq_st, opEq_sl, opNe_ts, opNe_ls, opNe_st, opNe_sl, opEq_ss, opNe_ss, opEq_nn, opNe_self, opEq_self, opNe_nn, opNe_lnil, opEq_lnil, opNe_is, opEq_is, opNe_si, opEq_si, opNe_bb, opEq_bb, opAdd_int, opAug_int, opSub_int, opMul_r, opMul_l, opMulI_r, opMulI_l, opDiv_int, opMod_int, opLt_int, opLe_int, opGt_int, opGe_int, opEq_int, opNe_int, min2_int, max2_int, min3_int, min4_int, opNeg_int, listO_l, listO_t, tupleO_l, tupleO_t, zipO_ll, zipO_tt, enumO_l, lenO_l, lenO_t, opIn_lst, opIn_tup, opNin_lst, opNin_tup, eqB_ss, eqB_ii, List.any_cons, List.any_nil, gSumD_eq, gAnyD_eq, anyF_nil, anyPut_some, absO_int, intO_int, intO_bl, fldO_eq, opIx_t, opIx_l,
  Bool.true_and, Bool.and_true, Bool.false_and, Bool.and_false, List.map_cons, List.map_nil, List.length_cons, List.length_nil, List.set_cons_zero, List.set_cons_succ, List.getElem?_cons_zero, List.getElem?_cons_succ, Option.map_some, Option.bind_some, decide_eq_true_eq, Bool.not_eq_true', decide_eq_false_iff_not, Bool.not_true, Bool.false_eq_true, reduceCtorEq, Bool.not_false, ite_true, ite_false, if_true, if_false, Nat.reduceAdd, Nat.reduceLeDiff, Nat.reduceLT, Nat.reduceSub, beq_self_eq_true, Nat.reduceEqDiff, reduceIte, Int.reduceToNat, Int.reducePow, List.take_zero, List.take_nil, List.drop_nil, List.drop_zero, List.take_succ_cons, List.drop_succ_cons, forF_nil, padE, List.length_append, List.replicate, List.append_nil, List.cons_append, List.nil_append])
theorem llevel_spec (s : DS) (f b sp ne d m : Int) (H : Td f b sp ne d) (hm : 0 ≤ m ∧ m ≤ 30000) : m_law_level [rowT f b sp ne d, .int m] s = .ok (.int (lvI f b sp ne d m)) s := by
  have hb : 0 < b := by omega
  have hc : ∃ L : Nat, L ≤ 60 ∧ (∀ k : Nat, k < 60 → ((f + (0 + (k : Int)) * b ≤ m) ↔ k < L)) ∧ (L = 0 → m < f) ∧ (0 < L → f + ((L : Int) - 1) * b ≤ m ∧ m < f + L * b) := by
    obtain ⟨a0, a1, a2⟩ := nI_spec (f := f) (m := m + 1) hb
    have a4 := nI_bd (f := f) (b := b) (m := m + 1) (c := 60) (by omega) (by omega) (by omega)
    have a5 : ∀ k : Int, 0 ≤ k → (m + 1 ≤ f + k * b ↔ nI f b (m + 1) ≤ k) := fun k hk => nI_iff hb hk
    generalize nI f b (m + 1) = n at *
    refine ⟨n.toNat, by omega, fun k hk => ?_, fun h => ?_, fun h => ?_⟩
    · have := a5 (0 + (k : Int)) (by omega)
      omega
    · rw [show n = 0 by omega] at a1
      omega
    · rw [show ((n.toNat : Nat) : Int) = n by omega]
      omega
  obtain ⟨L, hL, hp, hz, hq⟩ := hc
  have hf := filter_lt (p := fun k : Nat => decide (f + (0 + (k : Int)) * b ≤ m)) hL (fun k hk => by rw [decide_eq_true_eq]; exact hp k hk)
  have hl : ∀ η : DL.Env, η = [.v (rowT f b sp ne d), .v (.int m), .v (.int f), .v (.int b), .v (.int (b / 2)), .v (.int 0), .no, .no, .no, .no, .no] → lcF (gN 7) (tstD (bopD opLe (bopD opAdd (vB 2) (bopD opMul (vB 7) (vB 3))) (vB 1))) (vD 7) η (rngL 0 60) s = .ok ((List.range L).map fun i : Nat => D.int (0 + (i : Int))) s := by
    intro η hη
    subst hη
    rw [rngL_map, lcF_pure (fun i : Nat => D.int (0 + (i : Int))) (fun k : Nat => decide (f + (0 + (k : Int)) * b ≤ m)) (fun i : Nat => D.int (0 + (i : Int))) (List.range 60) (fun a ha => ⟨_, rfl, by
      have ha := List.mem_range.mp ha
      walk_at "dl", fun _ => by walk_at "dl"⟩), hf]
  have hl := hl _ rfl
  unfold m_law_level B_law_level
  walk_at "dl2"
  rw [hl]
  walk_at "dl2"
  by_cases h0 : L = 0
  · have hn : nI f b m = 0 := nI_of hb (by omega) (by have := hz h0; omega) (.inl rfl)
    subst h0
    unfold lvI
    rw [hn, if_neg (fun z => by omega)]
    walk_at "dl3"
  · have hq := hq (by omega)
    have hne : (List.range L).map (fun i : Nat => D.int (0 + (i : Int))) ≠ [] := by simp [h0]
    have ok : okN 9 (.lst ((List.range L).map fun i : Nat => D.int (0 + (i : Int)))) = true := by
      have := okN_ints ((List.range L).map fun i : Nat => (0 + (i : Int))) 8
      rw [List.map_map] at this
      rw [okN]
      exact this
    have hx : atI ((List.range L).map fun i : Nat => D.int (0 + (i : Int))) ((L : Int) - 1) = some (.int ((L : Int) - 1)) := by
      rw [atI_at (by rw [List.length_map, List.length_range]; omega), List.getElem?_map, List.getElem?_range (by omega)]
      show some (D.int (0 + (((L : Int) - 1).toNat : Int))) = _
      rw [show (0 + (((L : Int) - 1).toNat : Int)) = (L : Int) - 1 by omega]
    have ho : opNe (.lst ((List.range L).map fun i : Nat => D.int (0 + (i : Int)))) (.lst []) = some (.bl true) := by
      exact opNe_nil ok hne
    simp only [List.length_map, List.length_range, hx, ho]
    have e1 : ((L : Int) - 1) * b = L * b - b := by rw [Int.sub_mul]; omega
    have e2 : ((L : Int) - 1 - 1) * b = L * b - b - b := by rw [Int.sub_mul, e1]; omega
    have e3 : ((L : Int) - 1 + 1) = L := by omega
    by_cases h1 : m - f - ((L : Int) - 1) * b = 0
    · have hn : nI f b m = (L : Int) - 1 := nI_of hb (by omega) (by omega) (by omega)
      have e4 : hI f b sp ne d ((L : Int) - 1) * (b / 2) / (b / 2) = hI f b sp ne d ((L : Int) - 1) := Int.mul_ediv_cancel _ (by omega)
      unfold lvI
      rw [hn, if_neg (fun z => by omega), show max 0 (b / 2 - (f + ((L : Int) - 1) * b - m)) = b / 2 by omega, e4]
      walk_at "dl2"
    · have hn : nI f b m = (L : Int) := nI_of hb (by omega) (by omega) (by omega)
      unfold lvI
      rw [hn]
      by_cases h2 : m - f - ((L : Int) - 1) * b ≤ b / 2
      · rw [if_pos ⟨by omega, by omega⟩, show m - (f + (L : Int) * b - b) = m - f - ((L : Int) - 1) * b by omega]
        walk_at "dl2"
      · rw [if_neg (fun z => by omega)]
        walk_at "dl2"
        simp only [e3]
        walk_at "dl2"
end L13
set_option Elab.async false
set_option linter.all false
set_option maxRecDepth 100000
set_option maxHeartbeats 2000000
namespace L13
open PySem L2 DL DR
local macro_rules | `(tactic| walk_at "dl") => `(tactic| simp -implicitDefEqProofs (disch := first | omega | assumption | (simp only [okN, okNL, okNL_mi, D.has, hasL, flt, isI, isS, List.all_cons, List.all_nil, Bool.or_true, Bool.true_or, Bool.false_or, Bool.false_and, Bool.and_self, Bool.and_true, Bool.true_and]; done) | (simp only [List.length_cons, List.length_nil, List.length_append, List.length_map, List.length_range]; omega) | (simp only [okN, okNL, Bool.and_self, Bool.and_true, Bool.true_and]; decide +kernel) | decide +kernel | fail) only [high_spec, init_spec, next_spec, height_spec, lheight_spec, level_spec, seqB_eq, then_nx, then_rt, then_bk, then_ct, then_ex, then_bad, bind_ok, bind_ex, bind_bad, toF_ok, toF_ex, toF_bad, ofO_some, ofO_none, nx_ok, cD_eq, vD_0, vD_s, vB_0, vB_o, vB_s, bopD_eq, uopD_eq, tstD_eq, asB_bl, asI_int, deref_int, deref_bl, deref_str, deref_non, deref_tup, deref_lst, deref_dic, deref_obj, deref_scr, deref_han, chD_eq, ch3D_eq, andT_eq, orT_eq, notT_eq, ifD_eq, andD_eq, orD_eq, notD_eq, nilA_eq, consA_eq, tupD_eq, lstD_eq, fldD_eq, bltD_eq, partN_eq, partS_eq, sliceD_eq, callD_eq, gateD_eq, methD_eq, isC_obj, calmD_eq, calmN_eq, calmK_obj, hanD_eq, notObj_l, notObj_t, notObj_d, setB_eq, setOB_eq, setF_eq, setOF_eq, ifB_eq, retB_eq, retN_eq, dropB_eq, nextB_eq, breakB_eq, contB_eq, raiseA_eq, augB_eq, frzB_eq, frzL_nil, frzL_cons, frzE_zl, frzE_zd, frzE_zv, frzE_zn, frzE_s, asgB_eq, asg2B_eq, parB_eq, putAll_nil, putAll_cons, asgFB_eq, nilF_eq, consV_eq, consO_eq, gN_eq, gsN_eq, gsC_eq, gT_eq, fnD_eq, fnK_nx, fnK_rt, fnK_ex, fnK_bad, inD_eq, inK_nx, inK_ex, toldD_eq,  ite_yes, ite_no, dec_yes, dec_no, plV_eq, plK_o, plK_h, plE_eq, plEK_h, wrF_slot, wrF_han, wrS_o, wrH_s, wrSU_s, wrHU_s, fldB_eq, fldU_eq, stB_eq, stAK_s, stAugB_eq, fldAugB_eq, plcD_slot, plcD_han, plS_o, mtB_eq, mthD_eq, isLst_l, appU_l, setL_l, getL_l, ixN_ok, atI_0, atI_1, atI_2, atI_3, atI_4, atI_5, atI_6, atI_7, atI_8, atI_9, atI_10, atI_11, atI_12, atI_13, atI_14, atI_15, forB_eq, rngD_eq, iterD_eq, rng1_int, rng2_int, scrO_l, scrO_s, lstO_l, tupO_l, putK_some, goK_nx, goK_ct, goK_bk, goK_rt, goK_ex, lcD_eq, wipeE_nil, wipeE_cons, yesT_eq, lcPut_some, wipB_eq, forW_eq, preB_eq, wip_nx, wip_bk, wip_ct, wip_rt, wip_ex, wip_bad, keep_t, keep_f, keep_n, asgO_s, asgK_eq, asgFK_eq, putS_nil, putS_v, putS_o, and_self, ite_self, wrS_o, wrSU_s, true_and, and_true, false_and, and_false, decide_true, decide_false, Int.reduceLT, Int.reduceLE, Int.reduceEq, Int.reduceAdd, Int.reduceSub, Int.reduceMul, Int.reduceNeg, Int.reduceDiv, Int.reduceMod, Int.reduceNe, turnF_eq,
  cut_to, cut_from, cut_both, opCut_l, opCut_t, opCut_s, opPow_int, opAdd_tup, opAdd_lst, opEq_ts, opEq_ls, opEq_st, opEq_sl, opNe_ts, opNe_ls, opNe_st, opNe_sl, opEq_ss, opNe_ss, opEq_nn, opNe_self, opEq_self, opNe_nn, opNe_lnil, opEq_lnil, opNe_is, opEq_is, opNe_si, opEq_si, opNe_bb, opEq_bb, opAdd_int, opAug_int, opSub_int, opMul_r, opMul_l, opMulI_r, opMulI_l, opDiv_int, opMod_int, opLt_int, opLe_int, opGt_int, opGe_int, opEq_int, opNe_int, min2_int, max2_int, min3_int, min4_int, opNeg_int, listO_l, listO_t, tupleO_l, tupleO_t, zipO_ll, zipO_tt, enumO_l, lenO_l, lenO_t, opIn_lst, opIn_tup, opNin_lst, opNin_tup, eqB_ss, eqB_ii, List.any_cons, List.any_nil, gSumD_eq, gAnyD_eq, anyF_nil, anyPut_some, absO_int, intO_int, intO_bl, fldO_eq, opIx_t, opIx_l,
  Bool.true_and, Bool.and_true, Bool.false_and, Bool.and_false, List.map_cons, List.map_nil, List.length_cons, List.length_nil, List.set_cons_zero, List.set_cons_succ, List.getElem?_cons_zero, List.getElem?_cons_succ, Option.map_some, Option.bind_some, decide_eq_true_eq, Bool.not_eq_true', decide_eq_false_iff_not, Bool.not_true, Bool.false_eq_true, reduceCtorEq, Bool.not_false, ite_true, ite_false, if_true, if_false, Nat.reduceAdd, Nat.reduceLeDiff, Nat.reduceLT, Nat.reduceSub, beq_self_eq_true, Nat.reduceEqDiff, reduceIte, Int.reduceToNat, Int.reducePow, List.take_zero, List.take_nil, List.drop_nil, List.drop_zero, List.take_succ_cons, List.drop_succ_cons, forF_nil, padE, List.length_append, List.replicate, List.append_nil, List.cons_append, List.nil_append])
/-! a day's high waters -/
def gI (f b day : Int) (k : Nat) : Int := f + (0 + (k : Int)) * b - 1440 * day
def onL (f b day : Int) : List Nat := (List.range 40).filter fun k => decide (0 ≤ gI f b day k) && decide (gI f b day k < 1440)
theorem onL_is {f b : Int} {day : Int} (hf : 0 ≤ f) (hb : 600 ≤ b) (hd : 0 ≤ day ∧ day ≤ 9) : onL f b day = (List.range (nI f b (1440 * (day + 1)) - nI f b (1440 * day)).toNat).map ((nI f b (1440 * day)).toNat + ·) ∧ nI f b (1440 * day) ≤ nI f b (1440 * (day + 1)) ∧ nI f b (1440 * (day + 1)) ≤ 40 ∧ 0 ≤ nI f b (1440 * day) := by
  have a1 := nI_spec (f := f) (b := b) (m := 1440 * day) (by omega)
  have a2 := nI_spec (f := f) (b := b) (m := 1440 * (day + 1)) (by omega)
  have a3 := nI_bd (f := f) (b := b) (m := 1440 * (day + 1)) (c := 40) hf hb (by omega)
  have a4 : ∀ k : Int, 0 ≤ k → (1440 * day ≤ f + k * b ↔ nI f b (1440 * day) ≤ k) := fun k hk => nI_iff (by omega) hk
  have a5 : ∀ k : Int, 0 ≤ k → (1440 * (day + 1) ≤ f + k * b ↔ nI f b (1440 * (day + 1)) ≤ k) := fun k hk => nI_iff (by omega) hk
  have a6 := (a4 (nI f b (1440 * (day + 1))) (by omega)).mp (by omega)
  generalize nI f b (1440 * day) = n at *
  generalize nI f b (1440 * (day + 1)) = m at *
  refine ⟨?_, by omega, by omega, by omega⟩
  refine filter_mid (by omega) fun k hk => ?_
  have b1 := a4 (0 + (k : Int)) (by omega)
  have b2 := a5 (0 + (k : Int)) (by omega)
  unfold gI
  simp only [Bool.and_eq_true, decide_eq_true_eq]
  omega
theorem on_spec (s : DS) (f b sp ne d day : Int) (H : Td f b sp ne d) (hd : 0 ≤ day ∧ day ≤ 9) : m_Tide_on_day [tide f b sp ne d, .int day] s = .ok (.tup ((onL f b day).map fun k => D.int (gI f b day k))) s := by
  obtain ⟨h1, h2, h3, h4⟩ := onL_is (f := f) (b := b) (by omega) (by omega) hd
  have a5 : ∀ k : Int, 0 ≤ k → (1440 * (day + 1) ≤ f + k * b ↔ nI f b (1440 * (day + 1)) ≤ k) := fun k hk => nI_iff (by omega) hk
  rw [h1, List.map_map]
  generalize nI f b (1440 * (day + 1)) = m at *
  generalize hn : nI f b (1440 * day) = n at *
  have key := whB_fun (ft := C_Tide_on_day_3) (f := L_Tide_on_day_3) (fun i : Nat => E_Tide_on_day_3 (.v (tide f b sp ne d)) (.v (.int day)) (.v (.int (n + i))) (.v (.int (f + (n + i) * b))) (.o (.lst ((List.range i).map fun j => D.int (gI f b day (n.toNat + j)))))) (fun _ => s) (fun i : Nat => decide (i < (m - n).toNat)) (fun i => i + 1) (fun i => i ≤ (m - n).toNat) (fun i => (m - n).toNat - i) 0 (m - n).toNat (by omega) (by omega) (fun i hi => ?_)
  · rw [whRun_up _ 0 (by omega) (by omega)] at key
    have k1 := key.1
    simp only [Int.natCast_zero, Int.add_zero, List.range_zero, List.map_nil] at k1
    unfold m_Tide_on_day B_Tide_on_day S_Tide_on_day_3
    walk_at "dl"
    rw [hn, k1]
    walk_at "dl"
    rfl
  · have b2 := a5 (n + (i : Int)) (by omega)
    refine ⟨?_, fun hc => ?_⟩
    · unfold C_Tide_on_day_3
      by_cases hc : i < (m - n).toNat
      · rw [decide_eq_true hc]
        walk_at "dl"
      · rw [decide_eq_false hc]
        walk_at "dl"
    · have hc : i < (m - n).toNat := by simpa using hc
      have e1 : ((i + 1 : Nat) : Int) = (i : Int) + 1 := by omega
      have e2 : gI f b day (n.toNat + i) = f + (n + i) * b - 1440 * day := by
        unfold gI
        rw [show 0 + ((n.toNat + i : Nat) : Int) = n + i by omega]
      have e3 : n + (i : Int) + 1 = n + ((i : Int) + 1) := by omega
      refine ⟨?_, by omega, by omega⟩
      rw [List.range_succ, List.map_append, List.map_singleton, e1, e2]
      have hl : ((List.range i).map fun j => D.int (gI f b day (n.toNat + j))).length ≤ 40 := by rw [List.length_map, List.length_range]; omega
      unfold L_Tide_on_day_3
      walk_at "dl"
      simp only [e3]
theorem on_bad (s : DS) (f b sp ne d : Int) : m_Tide_on_day [tide f b sp ne d, .int (-1)] s = .ex 1 [] s := by
  unfold m_Tide_on_day B_Tide_on_day
  walk_at "dl"
/-! the days with most high waters by light -/
def cntI (f b l k day : Int) : Int := (((List.range 40).filter fun i => decide (l ≤ gI f b day i) && decide (gI f b day i < k)).length : Int)
def cntL (f b l k days : Int) : List D := (List.range days.toNat).map fun i : Nat => D.int (cntI f b l k (0 + (i : Int)))
def bestL (f b l k days : Int) (m : Int) : List D := ((List.range days.toNat).filter fun i : Nat => decide (cntI f b l k (0 + (i : Int)) = m)).map fun i : Nat => D.int (0 + (i : Int))
theorem cnt_max (f b l k days : Int) (h : 0 < days) : ∃ m, maxO [.lst (cntL f b l k days)] = some (.int m) := by
  obtain ⟨m, h1, _⟩ := max_some (l := (List.range days.toNat).map fun i : Nat => cntI f b l k (0 + (i : Int))) (by
    intro z
    have := congrArg List.length z
    simp at this
    omega)
  rw [List.map_map] at h1
  exact ⟨m, h1⟩
local macro_rules | `(tactic| walk_at "dl2") => `(tactic| simp -implicitDefEqProofs (disch := first | omega | assumption | (simp only [okN, okNL, okNL_mi, D.has, hasL, flt, isI, isS, List.all_cons, List.all_nil, Bool.or_true, Bool.true_or, Bool.false_or, Bool.false_and, Bool.and_self, Bool.and_true, Bool.true_and]; done) | (simp only [List.length_cons, List.length_nil, List.length_append, List.length_map, List.length_range]; omega) | (simp only [okN, okNL, Bool.and_self, Bool.and_true, Bool.true_and]; decide +kernel) | decide +kernel | fail) only [high_spec, init_spec, next_spec, height_spec, lheight_spec, level_spec, on_spec, intsOf_fmap, sum_ones, List.length_map, seqB_eq, then_nx, then_rt, then_bk, then_ct, then_ex, then_bad, bind_ok, bind_ex, bind_bad, toF_ok, toF_ex, toF_bad, ofO_some, ofO_none, nx_ok, cD_eq, vD_0, vD_s, vB_0, vB_o, vB_s, bopD_eq, uopD_eq, tstD_eq, asB_bl, asI_int, deref_int, deref_bl, deref_str, deref_non, deref_tup, deref_lst, deref_dic, deref_obj, deref_scr, deref_han, chD_eq, ch3D_eq, andT_eq, orT_eq, notT_eq, ifD_eq, andD_eq, orD_eq, notD_eq, nilA_eq, consA_eq, tupD_eq, lstD_eq, fldD_eq, bltD_eq, partN_eq, partS_eq, sliceD_eq, callD_eq, gateD_eq, methD_eq, isC_obj, calmD_eq, calmN_eq, calmK_obj, hanD_eq, notObj_l, notObj_t, notObj_d, setB_eq, setOB_eq, setF_eq, setOF_eq, ifB_eq, retB_eq, retN_eq, dropB_eq, nextB_eq, breakB_eq, contB_eq, raiseA_eq, augB_eq, frzB_eq, frzL_nil, frzL_cons, frzE_zl, frzE_zd, frzE_zv, frzE_zn, frzE_s, asgB_eq, asg2B_eq, parB_eq, putAll_nil, putAll_cons, asgFB_eq, nilF_eq, consV_eq, consO_eq, gN_eq, gsN_eq, gsC_eq, gT_eq, fnD_eq, fnK_nx, fnK_rt, fnK_ex, fnK_bad, inD_eq, inK_nx, inK_ex, toldD_eq,  ite_yes, ite_no, dec_yes, dec_no, plV_eq, plK_o, plK_h, plE_eq, plEK_h, wrF_slot, wrF_han, wrS_o, wrH_s, wrSU_s, wrHU_s, fldB_eq, fldU_eq, stB_eq, stAK_s, stAugB_eq, fldAugB_eq, plcD_slot, plcD_han, plS_o, mtB_eq, mthD_eq, isLst_l, appU_l, setL_l, getL_l, ixN_ok, atI_0, atI_1, atI_2, atI_3, atI_4, atI_5, atI_6, atI_7, atI_8, atI_9, atI_10, atI_11, atI_12, atI_13, atI_14, atI_15, forB_eq, rngD_eq, iterD_eq, rng1_int, rng2_int, scrO_l, scrO_s, lstO_l, tupO_l, putK_some, goK_nx, goK_ct, goK_bk, goK_rt, goK_ex, lcD_eq, wipeE_nil, wipeE_cons, yesT_eq, lcPut_some, wipB_eq, forW_eq, preB_eq, wip_nx, wip_bk, wip_ct, wip_rt, wip_ex, wip_bad, keep_t, keep_f, keep_n, asgO_s, asgK_eq, asgFK_eq, putS_nil, putS_v, putS_o, and_self, ite_self, wrS_o, wrSU_s, true_and, and_true, false_and, and_false, decide_true, decide_false, Int.reduceLT, Int.reduceLE, Int.reduceEq, Int.reduceAdd, Int.reduceSub, Int.reduceMul, Int.reduceNeg, Int.reduceDiv, Int.reduceMod, Int.reduceNe, turnF_eq,
  cut_to, cut_from, cut_both, opCut_l, opCut_t, opCut_s, opPow_int, opAdd_tup, opAdd_lst, opEq_ts, opEq_ls, opEq_st, opEq_sl, opNe_ts, opNe_ls, opNe_st, opNe_sl, opEq_ss, opNe_ss, opEq_nn, opNe_self, opEq_self, opNe_nn, opNe_lnil, opEq_lnil, opNe_is, opEq_is, opNe_si, opEq_si, opNe_bb, opEq_bb, opAdd_int, opAug_int, opSub_int, opMul_r, opMul_l, opMulI_r, opMulI_l, opDiv_int, opMod_int, opLt_int, opLe_int, opGt_int, opGe_int, opEq_int, opNe_int, min2_int, max2_int, min3_int, min4_int, opNeg_int, listO_l, listO_t, tupleO_l, tupleO_t, zipO_ll, zipO_tt, enumO_l, lenO_l, lenO_t, opIn_lst, opIn_tup, opNin_lst, opNin_tup, eqB_ss, eqB_ii, List.any_cons, List.any_nil, gSumD_eq, gAnyD_eq, anyF_nil, anyPut_some, absO_int, intO_int, intO_bl, fldO_eq, opIx_t, opIx_l,
  Bool.true_and, Bool.and_true, Bool.false_and, Bool.and_false, List.map_cons, List.map_nil, List.length_cons, List.length_nil, List.set_cons_zero, List.set_cons_succ, List.getElem?_cons_zero, List.getElem?_cons_succ, Option.map_some, Option.bind_some, decide_eq_true_eq, Bool.not_eq_true', decide_eq_false_iff_not, Bool.not_true, Bool.false_eq_true, reduceCtorEq, Bool.not_false, ite_true, ite_false, if_true, if_false, Nat.reduceAdd, Nat.reduceLeDiff, Nat.reduceLT, Nat.reduceSub, beq_self_eq_true, Nat.reduceEqDiff, reduceIte, Int.reduceToNat, Int.reducePow, List.take_zero, List.take_nil, List.drop_nil, List.drop_zero, List.take_succ_cons, List.drop_succ_cons, forF_nil, padE, List.length_append, List.replicate, List.append_nil, List.cons_append, List.nil_append])
theorem best_spec (s : DS) (f b sp ne d days l k m : Int) (H : Td f b sp ne d) (hd : 1 ≤ days ∧ days ≤ 8) (hl : 0 ≤ l ∧ l < k ∧ k ≤ 1440) (hm : maxO [.lst (cntL f b l k days)] = some (.int m)) :
    m_Tide_best_days [tide f b sp ne d, .int days, .int l, .int k] s = .ok (.tup (bestL f b l k days m)) s := by
  unfold m_Tide_best_days B_Tide_best_days
  walk_at "dl2"
  rw [rngL_map, lcF_all (fun i : Nat => D.int (0 + (i : Int))) (fun i : Nat => D.int (cntI f b l k (0 + (i : Int)))) (List.range days.toNat) (fun a ha => ⟨_, rfl, by walk_at "dl2", by
    have ha := List.mem_range.mp ha
    have e : ((onL f b (0 + (a : Int))).filter fun i => decide (l ≤ gI f b (0 + (a : Int)) i) && decide (gI f b (0 + (a : Int)) i < k)) = ((List.range 40).filter fun i => decide (l ≤ gI f b (0 + (a : Int)) i) && decide (gI f b (0 + (a : Int)) i < k)) := by
      unfold onL
      refine filter_and fun i _ => ?_
      simp only [Bool.and_eq_true, decide_eq_true_eq]
      omega
    unfold cntI
    rw [← e]
    walk_at "dl2"
    rw [lcF_pure (fun i : Nat => D.int (gI f b (0 + (a : Int)) i)) (fun i => decide (l ≤ gI f b (0 + (a : Int)) i) && decide (gI f b (0 + (a : Int)) i < k)) (fun _ : Nat => D.int 1) (onL f b (0 + (a : Int))) (fun i hi => ⟨_, rfl, by
      by_cases c1 : l ≤ gI f b (0 + (a : Int)) i
      · by_cases c2 : gI f b (0 + (a : Int)) i < k
        · rw [decide_eq_true c1, decide_eq_true c2]
          walk_at "dl"
        · rw [decide_eq_true c1, decide_eq_false c2]
          walk_at "dl"
      · rw [decide_eq_false c1]
        walk_at "dl", fun _ => by walk_at "dl"⟩)]
    walk_at "dl2"⟩)]
  have hm2 : maxO [.lst ((List.range days.toNat).map fun i : Nat => D.int (cntI f b l k (0 + (i : Int))))] = some (.int m) := hm
  walk_at "dl2"
  rw [enumL_rmap, lcF_pure (fun i : Nat => D.tup [.int (0 + (i : Int)), .int (cntI f b l k (0 + (i : Int)))]) (fun i : Nat => decide (cntI f b l k (0 + (i : Int)) = m)) (fun i : Nat => D.int (0 + (i : Int))) (List.range days.toNat) (fun a ha => ⟨_, rfl, by
    walk_at "dl2"
    rw [hm2]
    walk_at "dl2", fun _ => by walk_at "dl2"⟩)]
  walk_at "dl2"
  unfold bestL
  rfl
theorem best_bad (s : DS) (f b sp ne d : Int) : m_Tide_best_days [tide f b sp ne d, .int 1, .int 5, .int 5] s = .ex 1 [] s := by
  unfold m_Tide_best_days B_Tide_best_days
  walk_at "dl"
end L13
set_option Elab.async false
set_option linter.all false
set_option maxRecDepth 100000
set_option maxHeartbeats 2000000
namespace L13
open PySem L2 DL DR
local macro_rules | `(tactic| walk_at "dl") => `(tactic| simp -implicitDefEqProofs (disch := first | omega | assumption | (simp only [okN, okNL, okNL_mi, D.has, hasL, flt, isI, isS, List.all_cons, List.all_nil, Bool.or_true, Bool.true_or, Bool.false_or, Bool.false_and, Bool.and_self, Bool.and_true, Bool.true_and]; done) | (simp only [List.length_cons, List.length_nil, List.length_append, List.length_map, List.length_range]; omega) | (simp only [okN, okNL, Bool.and_self, Bool.and_true, Bool.true_and]; decide +kernel) | decide +kernel | fail) only [high_spec, init_spec, next_spec, height_spec, lheight_spec, level_spec, seqB_eq, then_nx, then_rt, then_bk, then_ct, then_ex, then_bad, bind_ok, bind_ex, bind_bad, toF_ok, toF_ex, toF_bad, ofO_some, ofO_none, nx_ok, cD_eq, vD_0, vD_s, vB_0, vB_o, vB_s, bopD_eq, uopD_eq, tstD_eq, asB_bl, asI_int, deref_int, deref_bl, deref_str, deref_non, deref_tup, deref_lst, deref_dic, deref_obj, deref_scr, deref_han, chD_eq, ch3D_eq, andT_eq, orT_eq, notT_eq, ifD_eq, andD_eq, orD_eq, notD_eq, nilA_eq, consA_eq, tupD_eq, lstD_eq, fldD_eq, bltD_eq, partN_eq, partS_eq, sliceD_eq, callD_eq, gateD_eq, methD_eq, isC_obj, calmD_eq, calmN_eq, calmK_obj, hanD_eq, notObj_l, notObj_t, notObj_d, setB_eq, setOB_eq, setF_eq, setOF_eq, ifB_eq, retB_eq, retN_eq, dropB_eq, nextB_eq, breakB_eq, contB_eq, raiseA_eq, augB_eq, frzB_eq, frzL_nil, frzL_cons, frzE_zl, frzE_zd, frzE_zv, frzE_zn, frzE_s, asgB_eq, asg2B_eq, parB_eq, putAll_nil, putAll_cons, asgFB_eq, nilF_eq, consV_eq, consO_eq, gN_eq, gsN_eq, gsC_eq, gT_eq, fnD_eq, fnK_nx, fnK_rt, fnK_ex, fnK_bad, inD_eq, inK_nx, inK_ex, toldD_eq,  ite_yes, ite_no, dec_yes, dec_no, plV_eq, plK_o, plK_h, plE_eq, plEK_h, wrF_slot, wrF_han, wrS_o, wrH_s, wrSU_s, wrHU_s, fldB_eq, fldU_eq, stB_eq, stAK_s, stAugB_eq, fldAugB_eq, plcD_slot, plcD_han, plS_o, mtB_eq, mthD_eq, isLst_l, appU_l, setL_l, getL_l, ixN_ok, atI_0, atI_1, atI_2, atI_3, atI_4, atI_5, atI_6, atI_7, atI_8, atI_9, atI_10, atI_11, atI_12, atI_13, atI_14, atI_15, forB_eq, rngD_eq, iterD_eq, rng1_int, rng2_int, scrO_l, scrO_s, lstO_l, tupO_l, putK_some, goK_nx, goK_ct, goK_bk, goK_rt, goK_ex, lcD_eq, wipeE_nil, wipeE_cons, yesT_eq, lcPut_some, wipB_eq, forW_eq, preB_eq, wip_nx, wip_bk, wip_ct, wip_rt, wip_ex, wip_bad, keep_t, keep_f, keep_n, asgO_s, asgK_eq, asgFK_eq, putS_nil, putS_v, putS_o, and_self, ite_self, wrS_o, wrSU_s, true_and, and_true, false_and, and_false, decide_true, decide_false, Int.reduceLT, Int.reduceLE, Int.reduceEq, Int.reduceAdd, Int.reduceSub, Int.reduceMul, Int.reduceNeg, Int.reduceDiv, Int.reduceMod, Int.reduceNe, turnF_eq,
  cut_to, cut_from, cut_both, opCut_l, opCut_t, opCut_s, opPow_int, opAdd_tup, opAdd_lst, opEq_ts, opEq_ls, opEq_st, opEq_sl, opNe_ts, opNe_ls, opNe_st, opNe_sl, opEq_ss, opNe_ss, opEq_nn, opNe_self, opEq_self, opNe_nn, opNe_lnil, opEq_lnil, opNe_is, opEq_is, opNe_si, opEq_si, opNe_bb, opEq_bb, opAdd_int, opAug_int, opSub_int, opMul_r, opMul_l, opMulI_r, opMulI_l, opDiv_int, opMod_int, opLt_int, opLe_int, opGt_int, opGe_int, opEq_int, opNe_int, min2_int, max2_int, min3_int, min4_int, opNeg_int, listO_l, listO_t, tupleO_l, tupleO_t, zipO_ll, zipO_tt, enumO_l, lenO_l, lenO_t, opIn_lst, opIn_tup, opNin_lst, opNin_tup, eqB_ss, eqB_ii, List.any_cons, List.any_nil, gSumD_eq, gAnyD_eq, anyF_nil, anyPut_some, absO_int, intO_int, intO_bl, fldO_eq, opIx_t, opIx_l,
  Bool.true_and, Bool.and_true, Bool.false_and, Bool.and_false, List.map_cons, List.map_nil, List.length_cons, List.length_nil, List.set_cons_zero, List.set_cons_succ, List.getElem?_cons_zero, List.getElem?_cons_succ, Option.map_some, Option.bind_some, decide_eq_true_eq, Bool.not_eq_true', decide_eq_false_iff_not, Bool.not_true, Bool.false_eq_true, reduceCtorEq, Bool.not_false, ite_true, ite_false, if_true, if_false, Nat.reduceAdd, Nat.reduceLeDiff, Nat.reduceLT, Nat.reduceSub, beq_self_eq_true, Nat.reduceEqDiff, reduceIte, Int.reduceToNat, Int.reducePow, List.take_zero, List.take_nil, List.drop_nil, List.drop_zero, List.take_succ_cons, List.drop_succ_cons, forF_nil, padE, List.length_append, List.replicate, List.append_nil, List.cons_append, List.nil_append])
abbrev mill (a w t g : Int) : D := .obj 1 [.int a, .int w, .int t, .int g]
abbrev mineT (a w t g : Int) : D := .tup [.int a, .int w, .int t, .int g]
abbrev Ml (a w t g : Int) : Prop := 0 ≤ a ∧ a < 200 ∧ 1 ≤ w ∧ w ≤ 20 ∧ 1 ≤ t ∧ t ≤ 900 ∧ 0 ≤ g ∧ g < 120
theorem minit_spec (s : DS) (a w t g : Int) (H : Ml a w t g) : m_Mill_init [.int a, .int w, .int t, .int g] s = .ok (mill a w t g) s := by
  unfold m_Mill_init B_Mill_init mill
  walk_at "dl"
theorem minit_bad (s : DS) : m_Mill_init [.int 1, .int 0, .int 1, .int 1] s = .ex 2 [] s := by
  unfold m_Mill_init B_Mill_init
  walk_at "dl"
theorem mkey_spec (s : DS) (a w t g : Int) : m_Mill_key [mill a w t g] s = .ok (mineT a w t g) s := by
  unfold m_Mill_key B_Mill_key
  walk_at "dl"
theorem filled_spec (s : DS) (a w t g h : Int) (M : Ml a w t g) : m_Mill_filled [mill a w t g, .int h] s = .ok (.int (max 0 (h - a) * w)) s := by
  unfold m_Mill_filled B_Mill_filled
  walk_at "dl"
local macro_rules | `(tactic| walk_at "dl1") => `(tactic| simp -implicitDefEqProofs (disch := first | omega | assumption | (simp only [okN, okNL, okNL_mi, D.has, hasL, flt, isI, isS, List.all_cons, List.all_nil, Bool.or_true, Bool.true_or, Bool.false_or, Bool.false_and, Bool.and_self, Bool.and_true, Bool.true_and]; done) | (simp only [List.length_cons, List.length_nil, List.length_append, List.length_map, List.length_range]; omega) | (simp only [okN, okNL, Bool.and_self, Bool.and_true, Bool.true_and]; decide +kernel) | decide +kernel | fail) only [high_spec, init_spec, next_spec, height_spec, lheight_spec, level_spec, filled_spec, seqB_eq, then_nx, then_rt, then_bk, then_ct, then_ex, then_bad, bind_ok, bind_ex, bind_bad, toF_ok, toF_ex, toF_bad, ofO_some, ofO_none, nx_ok, cD_eq, vD_0, vD_s, vB_0, vB_o, vB_s, bopD_eq, uopD_eq, tstD_eq, asB_bl, asI_int, deref_int, deref_bl, deref_str, deref_non, deref_tup, deref_lst, deref_dic, deref_obj, deref_scr, deref_han, chD_eq, ch3D_eq, andT_eq, orT_eq, notT_eq, ifD_eq, andD_eq, orD_eq, notD_eq, nilA_eq, consA_eq, tupD_eq, lstD_eq, fldD_eq, bltD_eq, partN_eq, partS_eq, sliceD_eq, callD_eq, gateD_eq, methD_eq, isC_obj, calmD_eq, calmN_eq, calmK_obj, hanD_eq, notObj_l, notObj_t, notObj_d, setB_eq, setOB_eq, setF_eq, setOF_eq, ifB_eq, retB_eq, retN_eq, dropB_eq, nextB_eq, breakB_eq, contB_eq, raiseA_eq, augB_eq, frzB_eq, frzL_nil, frzL_cons, frzE_zl, frzE_zd, frzE_zv, frzE_zn, frzE_s, asgB_eq, asg2B_eq, parB_eq, putAll_nil, putAll_cons, asgFB_eq, nilF_eq, consV_eq, consO_eq, gN_eq, gsN_eq, gsC_eq, gT_eq, fnD_eq, fnK_nx, fnK_rt, fnK_ex, fnK_bad, inD_eq, inK_nx, inK_ex, toldD_eq,  ite_yes, ite_no, dec_yes, dec_no, plV_eq, plK_o, plK_h, plE_eq, plEK_h, wrF_slot, wrF_han, wrS_o, wrH_s, wrSU_s, wrHU_s, fldB_eq, fldU_eq, stB_eq, stAK_s, stAugB_eq, fldAugB_eq, plcD_slot, plcD_han, plS_o, mtB_eq, mthD_eq, isLst_l, appU_l, setL_l, getL_l, ixN_ok, atI_0, atI_1, atI_2, atI_3, atI_4, atI_5, atI_6, atI_7, atI_8, atI_9, atI_10, atI_11, atI_12, atI_13, atI_14, atI_15, forB_eq, rngD_eq, iterD_eq, rng1_int, rng2_int, scrO_l, scrO_s, lstO_l, tupO_l, putK_some, goK_nx, goK_ct, goK_bk, goK_rt, goK_ex, lcD_eq, wipeE_nil, wipeE_cons, yesT_eq, lcPut_some, wipB_eq, forW_eq, preB_eq, wip_nx, wip_bk, wip_ct, wip_rt, wip_ex, wip_bad, keep_t, keep_f, keep_n, asgO_s, asgK_eq, asgFK_eq, putS_nil, putS_v, putS_o, and_self, ite_self, wrS_o, wrSU_s, true_and, and_true, false_and, and_false, decide_true, decide_false, Int.reduceLT, Int.reduceLE, Int.reduceEq, Int.reduceAdd, Int.reduceSub, Int.reduceMul, Int.reduceNeg, Int.reduceDiv, Int.reduceMod, Int.reduceNe, turnF_eq,
  cut_to, cut_from, cut_both, opCut_l, opCut_t, opCut_s, opPow_int, opAdd_tup, opAdd_lst, opEq_ts, opEq_ls, opEq_st, opEq_sl, opNe_ts, opNe_ls, opNe_st, opNe_sl, opEq_ss, opNe_ss, opEq_nn, opNe_self, opEq_self, opNe_nn, opNe_lnil, opEq_lnil, opNe_is, opEq_is, opNe_si, opEq_si, opNe_bb, opEq_bb, opAdd_int, opAug_int, opSub_int, opMul_r, opMul_l, opMulI_r, opMulI_l, opDiv_int, opMod_int, opLt_int, opLe_int, opGt_int, opGe_int, opEq_int, opNe_int, min2_int, max2_int, min3_int, min4_int, opNeg_int, listO_l, listO_t, tupleO_l, tupleO_t, zipO_ll, zipO_tt, enumO_l, lenO_l, lenO_t, opIn_lst, opIn_tup, opNin_lst, opNin_tup, eqB_ss, eqB_ii, List.any_cons, List.any_nil, gSumD_eq, gAnyD_eq, anyF_nil, anyPut_some, absO_int, intO_int, intO_bl, fldO_eq, opIx_t, opIx_l,
  Bool.true_and, Bool.and_true, Bool.false_and, Bool.and_false, List.map_cons, List.map_nil, List.length_cons, List.length_nil, List.set_cons_zero, List.set_cons_succ, List.getElem?_cons_zero, List.getElem?_cons_succ, Option.map_some, Option.bind_some, decide_eq_true_eq, Bool.not_eq_true', decide_eq_false_iff_not, Bool.not_true, Bool.false_eq_true, reduceCtorEq, Bool.not_false, ite_true, ite_false, if_true, if_false, Nat.reduceAdd, Nat.reduceLeDiff, Nat.reduceLT, Nat.reduceSub, beq_self_eq_true, Nat.reduceEqDiff, reduceIte, Int.reduceToNat, Int.reducePow, List.take_zero, List.take_nil, List.drop_nil, List.drop_zero, List.take_succ_cons, List.drop_succ_cons, forF_nil, padE, List.length_append, List.replicate, List.append_nil, List.cons_append, List.nil_append])
/-- the pond's water behind the high water n -/
def poI (f b sp ne d a w n : Int) : Int := max 0 (hI f b sp ne d n - a) * w
def runB (f b sp ne d a w t g n m h : Int) : Bool := decide (g ≤ a + (poI f b sp ne d a w n - h * t) / w - lvI f b sp ne d m)
theorem can_spec (s : DS) (f b sp ne d a w t g n m h : Int) (H : Td f b sp ne d) (M : Ml a w t g) (hn : 0 ≤ n) : m_Mill_can_run [mill a w t g, tide f b sp ne d, .int n, .int m, .int h] s = .ok (.bl (runB f b sp ne d a w t g n m h)) s := by
  unfold m_Mill_can_run B_Mill_can_run runB poI
  walk_at "dl1"
/-- an hour's milling -/
def hrS (f b sp ne d a w t g n : Int) (x : Int) (i : Nat) : Int := if decide (t ≤ poI f b sp ne d a w n - x * t) && runB f b sp ne d a w t g n (f + n * b + 60 * (0 + (i : Int))) x then x + 1 else x
def hrI (f b sp ne d a w t g n : Int) : Int := (List.range (b / 60).toNat).foldl (hrS f b sp ne d a w t g n) 0
theorem most_iff {p t x : Int} (ht : 0 < t) : x < p / t ↔ t ≤ p - x * t := by
  rw [show x < p / t ↔ x + 1 ≤ p / t from by omega, Int.le_ediv_iff_mul_le ht, Int.add_mul, Int.one_mul]
  omega
theorem hrS_bd (f b sp ne d a w t g n x : Int) (i : Nat) : x ≤ hrS f b sp ne d a w t g n x i ∧ hrS f b sp ne d a w t g n x i ≤ x + 1 := by
  unfold hrS
  split <;> omega
local macro_rules | `(tactic| walk_at "dl2") => `(tactic| simp -implicitDefEqProofs (disch := first | omega | assumption | (simp only [okN, okNL, okNL_mi, D.has, hasL, flt, isI, isS, List.all_cons, List.all_nil, Bool.or_true, Bool.true_or, Bool.false_or, Bool.false_and, Bool.and_self, Bool.and_true, Bool.true_and]; done) | (simp only [List.length_cons, List.length_nil, List.length_append, List.length_map, List.length_range]; omega) | (simp only [okN, okNL, Bool.and_self, Bool.and_true, Bool.true_and]; decide +kernel) | decide +kernel | fail) only [high_spec, init_spec, next_spec, height_spec, lheight_spec, level_spec, filled_spec, can_spec, seqB_eq, then_nx, then_rt, then_bk, then_ct, then_ex, then_bad, bind_ok, bind_ex, bind_bad, toF_ok, toF_ex, toF_bad, ofO_some, ofO_none, nx_ok, cD_eq, vD_0, vD_s, vB_0, vB_o, vB_s, bopD_eq, uopD_eq, tstD_eq, asB_bl, asI_int, deref_int, deref_bl, deref_str, deref_non, deref_tup, deref_lst, deref_dic, deref_obj, deref_scr, deref_han, chD_eq, ch3D_eq, andT_eq, orT_eq, notT_eq, ifD_eq, andD_eq, orD_eq, notD_eq, nilA_eq, consA_eq, tupD_eq, lstD_eq, fldD_eq, bltD_eq, partN_eq, partS_eq, sliceD_eq, callD_eq, gateD_eq, methD_eq, isC_obj, calmD_eq, calmN_eq, calmK_obj, hanD_eq, notObj_l, notObj_t, notObj_d, setB_eq, setOB_eq, setF_eq, setOF_eq, ifB_eq, retB_eq, retN_eq, dropB_eq, nextB_eq, breakB_eq, contB_eq, raiseA_eq, augB_eq, frzB_eq, frzL_nil, frzL_cons, frzE_zl, frzE_zd, frzE_zv, frzE_zn, frzE_s, asgB_eq, asg2B_eq, parB_eq, putAll_nil, putAll_cons, asgFB_eq, nilF_eq, consV_eq, consO_eq, gN_eq, gsN_eq, gsC_eq, gT_eq, fnD_eq, fnK_nx, fnK_rt, fnK_ex, fnK_bad, inD_eq, inK_nx, inK_ex, toldD_eq,  ite_yes, ite_no, dec_yes, dec_no, plV_eq, plK_o, plK_h, plE_eq, plEK_h, wrF_slot, wrF_han, wrS_o, wrH_s, wrSU_s, wrHU_s, fldB_eq, fldU_eq, stB_eq, stAK_s, stAugB_eq, fldAugB_eq, plcD_slot, plcD_han, plS_o, mtB_eq, mthD_eq, isLst_l, appU_l, setL_l, getL_l, ixN_ok, atI_0, atI_1, atI_2, atI_3, atI_4, atI_5, atI_6, atI_7, atI_8, atI_9, atI_10, atI_11, atI_12, atI_13, atI_14, atI_15, forB_eq, rngD_eq, iterD_eq, rng1_int, rng2_int, scrO_l, scrO_s, lstO_l, tupO_l, putK_some, goK_nx, goK_ct, goK_bk, goK_rt, goK_ex, lcD_eq, wipeE_nil, wipeE_cons, yesT_eq, lcPut_some, wipB_eq, forW_eq, preB_eq, wip_nx, wip_bk, wip_ct, wip_rt, wip_ex, wip_bad, keep_t, keep_f, keep_n, asgO_s, asgK_eq, asgFK_eq, putS_nil, putS_v, putS_o, and_self, ite_self, wrS_o, wrSU_s, true_and, and_true, false_and, and_false, decide_true, decide_false, Int.reduceLT, Int.reduceLE, Int.reduceEq, Int.reduceAdd, Int.reduceSub, Int.reduceMul, Int.reduceNeg, Int.reduceDiv, Int.reduceMod, Int.reduceNe, turnF_eq,
  cut_to, cut_from, cut_both, opCut_l, opCut_t, opCut_s, opPow_int, opAdd_tup, opAdd_lst, opEq_ts, opEq_ls, opEq_st, opEq_sl, opNe_ts, opNe_ls, opNe_st, opNe_sl, opEq_ss, opNe_ss, opEq_nn, opNe_self, opEq_self, opNe_nn, opNe_lnil, opEq_lnil, opNe_is, opEq_is, opNe_si, opEq_si, opNe_bb, opEq_bb, opAdd_int, opAug_int, opSub_int, opMul_r, opMul_l, opMulI_r, opMulI_l, opDiv_int, opMod_int, opLt_int, opLe_int, opGt_int, opGe_int, opEq_int, opNe_int, min2_int, max2_int, min3_int, min4_int, opNeg_int, listO_l, listO_t, tupleO_l, tupleO_t, zipO_ll, zipO_tt, enumO_l, lenO_l, lenO_t, opIn_lst, opIn_tup, opNin_lst, opNin_tup, eqB_ss, eqB_ii, List.any_cons, List.any_nil, gSumD_eq, gAnyD_eq, anyF_nil, anyPut_some, absO_int, intO_int, intO_bl, fldO_eq, opIx_t, opIx_l,
  Bool.true_and, Bool.and_true, Bool.false_and, Bool.and_false, List.map_cons, List.map_nil, List.length_cons, List.length_nil, List.set_cons_zero, List.set_cons_succ, List.getElem?_cons_zero, List.getElem?_cons_succ, Option.map_some, Option.bind_some, decide_eq_true_eq, Bool.not_eq_true', decide_eq_false_iff_not, Bool.not_true, Bool.false_eq_true, reduceCtorEq, Bool.not_false, ite_true, ite_false, if_true, if_false, Nat.reduceAdd, Nat.reduceLeDiff, Nat.reduceLT, Nat.reduceSub, beq_self_eq_true, Nat.reduceEqDiff, reduceIte, Int.reduceToNat, Int.reducePow, List.take_zero, List.take_nil, List.drop_nil, List.drop_zero, List.take_succ_cons, List.drop_succ_cons, forF_nil, padE, List.length_append, List.replicate, List.append_nil, List.cons_append, List.nil_append])
theorem hours_spec (s : DS) (f b sp ne d a w t g n : Int) (H : Td f b sp ne d) (M : Ml a w t g) (hn : 0 ≤ n) : m_Mill_hours [mill a w t g, tide f b sp ne d, .int n] s = .ok (.int (hrI f b sp ne d a w t g n)) s := by
  have key := forF_fold (f := L_Mill_hours_2) (put := gN 5) (fun x : Int => E_Mill_hours_2 (.v (mill a w t g)) (.v (tide f b sp ne d)) (.v (.int n)) (.v (.int (poI f b sp ne d a w n / t))) (.v (.int x))) (fun _ => s) (fun i : Nat => D.int (0 + (i : Int))) (hrS f b sp ne d a w t g n) (fun _ => True) (List.range (b / 60).toNat) 0 trivial (fun i hi x _ => ⟨?_, trivial⟩)
  · unfold m_Mill_hours B_Mill_hours S_Mill_hours_2
    walk_at "dl2"
    have k := key.1
    unfold poI at k
    rw [rngL_map, k]
    walk_at "dl2"
    rfl
  · have hm := most_iff (p := poI f b sp ne d a w n) (x := x) (show 0 < t by omega)
    unfold turnF L_Mill_hours_2 hrS
    by_cases h1 : x < poI f b sp ne d a w n / t
    · rw [decide_eq_true (hm.mp h1), Bool.true_and]
      walk_at "dl2"
      cases runB f b sp ne d a w t g n (f + n * b + 60 * (0 + (i : Int))) x with
      | true => walk_at "dl2"
      | false => walk_at "dl2"
    · rw [decide_eq_false (fun z => h1 (hm.mpr z)), Bool.false_and]
      walk_at "dl2"
/-! the year, the worst tide -/
def hrs (f b sp ne d a w t g : Int) (n : Nat) : List Int := (List.range n).map fun i : Nat => hrI f b sp ne d a w t g (0 + (i : Int))
local macro_rules | `(tactic| walk_at "dl3") => `(tactic| simp -implicitDefEqProofs (disch := first | omega | assumption | (simp only [okN, okNL, okNL_mi, D.has, hasL, flt, isI, isS, List.all_cons, List.all_nil, Bool.or_true, Bool.true_or, Bool.false_or, Bool.false_and, Bool.and_self, Bool.and_true, Bool.true_and]; done) | (simp only [List.length_cons, List.length_nil, List.length_append, List.length_map, List.length_range]; omega) | (simp only [okN, okNL, Bool.and_self, Bool.and_true, Bool.true_and]; decide +kernel) | decide +kernel | fail) only [high_spec, hours_spec, intsOf_fmap, seqB_eq, then_nx, then_rt, then_bk, then_ct, then_ex, then_bad, bind_ok, bind_ex, bind_bad, toF_ok, toF_ex, toF_bad, ofO_some, ofO_none, nx_ok, cD_eq, vD_0, vD_s, vB_0, vB_o, vB_s, bopD_eq, uopD_eq, tstD_eq, asB_bl, asI_int, deref_int, deref_bl, deref_str, deref_non, deref_tup, deref_lst, deref_dic, deref_obj, deref_scr, deref_han, chD_eq, ch3D_eq, andT_eq, orT_eq, notT_eq, ifD_eq, andD_eq, orD_eq, notD_eq, nilA_eq, consA_eq, tupD_eq, lstD_eq, fldD_eq, bltD_eq, partN_eq, partS_eq, sliceD_eq, callD_eq, gateD_eq, methD_eq, isC_obj, calmD_eq, calmN_eq, calmK_obj, hanD_eq, notObj_l, notObj_t, notObj_d, setB_eq, setOB_eq, setF_eq, setOF_eq, ifB_eq, retB_eq, retN_eq, dropB_eq, nextB_eq, breakB_eq, contB_eq, raiseA_eq, augB_eq, frzB_eq, frzL_nil, frzL_cons, frzE_zl, frzE_zd, frzE_zv, frzE_zn, frzE_s, asgB_eq, asg2B_eq, parB_eq, putAll_nil, putAll_cons, asgFB_eq, nilF_eq, consV_eq, consO_eq, gN_eq, gsN_eq, gsC_eq, gT_eq, fnD_eq, fnK_nx, fnK_rt, fnK_ex, fnK_bad, inD_eq, inK_nx, inK_ex, toldD_eq,  ite_yes, ite_no, dec_yes, dec_no, plV_eq, plK_o, plK_h, plE_eq, plEK_h, wrF_slot, wrF_han, wrS_o, wrH_s, wrSU_s, wrHU_s, fldB_eq, fldU_eq, stB_eq, stAK_s, stAugB_eq, fldAugB_eq, plcD_slot, plcD_han, plS_o, mtB_eq, mthD_eq, isLst_l, appU_l, setL_l, getL_l, ixN_ok, atI_0, atI_1, atI_2, atI_3, atI_4, atI_5, atI_6, atI_7, atI_8, atI_9, atI_10, atI_11, atI_12, atI_13, atI_14, atI_15, forB_eq, rngD_eq, iterD_eq, rng1_int, rng2_int, scrO_l, scrO_s, lstO_l, tupO_l, putK_some, goK_nx, goK_ct, goK_bk, goK_rt, goK_ex, lcD_eq, wipeE_nil, wipeE_cons, yesT_eq, lcPut_some, wipB_eq, forW_eq, preB_eq, wip_nx, wip_bk, wip_ct, wip_rt, wip_ex, wip_bad, keep_t, keep_f, keep_n, asgO_s, asgK_eq, asgFK_eq, putS_nil, putS_v, putS_o, and_self, ite_self, wrS_o, wrSU_s, true_and, and_true, false_and, and_false, decide_true, decide_false, Int.reduceLT, Int.reduceLE, Int.reduceEq, Int.reduceAdd, Int.reduceSub, Int.reduceMul, Int.reduceNeg, Int.reduceDiv, Int.reduceMod, Int.reduceNe, turnF_eq,
  cut_to, cut_from, cut_both, opCut_l, opCut_t, opCut_s, opPow_int, opAdd_tup, opAdd_lst, opEq_ts, opEq_ls, opEq_st, opEq_sl, opNe_ts, opNe_ls, opNe_st, opNe_sl, opEq_ss, opNe_ss, opEq_nn, opNe_self, opEq_self, opNe_nn, opNe_lnil, opEq_lnil, opNe_is, opEq_is, opNe_si, opEq_si, opNe_bb, opEq_bb, opAdd_int, opAug_int, opSub_int, opMul_r, opMul_l, opMulI_r, opMulI_l, opDiv_int, opMod_int, opLt_int, opLe_int, opGt_int, opGe_int, opEq_int, opNe_int, min2_int, max2_int, min3_int, min4_int, opNeg_int, listO_l, listO_t, tupleO_l, tupleO_t, zipO_ll, zipO_tt, enumO_l, lenO_l, lenO_t, opIn_lst, opIn_tup, opNin_lst, opNin_tup, eqB_ss, eqB_ii, List.any_cons, List.any_nil, gSumD_eq, gAnyD_eq, anyF_nil, anyPut_some, absO_int, intO_int, intO_bl, fldO_eq, opIx_t, opIx_l,
  Bool.true_and, Bool.and_true, Bool.false_and, Bool.and_false, List.map_cons, List.map_nil, List.length_cons, List.length_nil, List.set_cons_zero, List.set_cons_succ, List.getElem?_cons_zero, List.getElem?_cons_succ, Option.map_some, Option.bind_some, decide_eq_true_eq, Bool.not_eq_true', decide_eq_false_iff_not, Bool.not_true, Bool.false_eq_true, reduceCtorEq, Bool.not_false, ite_true, ite_false, if_true, if_false, Nat.reduceAdd, Nat.reduceLeDiff, Nat.reduceLT, Nat.reduceSub, beq_self_eq_true, Nat.reduceEqDiff, reduceIte, Int.reduceToNat, Int.reducePow, List.take_zero, List.take_nil, List.drop_nil, List.drop_zero, List.take_succ_cons, List.drop_succ_cons, forF_nil, padE, List.length_append, List.replicate, List.append_nil, List.cons_append, List.nil_append])
theorem year_spec (s : DS) (f b sp ne d a w t g : Int) (n : Nat) (H : Td f b sp ne d) (M : Ml a w t g) (hn : n ≤ 10) : m_Mill_year [mill a w t g, tide f b sp ne d, .int n] s = .ok (.int (hrs f b sp ne d a w t g n).sum) s := by
  unfold m_Mill_year B_Mill_year
  walk_at "dl3"
  rw [Int.toNat_natCast, rngL_map, lcF_all (fun i : Nat => D.int (0 + (i : Int))) (fun i : Nat => D.int (hrI f b sp ne d a w t g (0 + (i : Int)))) (List.range n) (fun a ha => ⟨_, rfl, by walk_at "dl3", by walk_at "dl3"⟩)]
  walk_at "dl3"
  rfl
theorem worst_bad (s : DS) (f b sp ne d a w t g : Int) : m_Mill_worst [mill a w t g, tide f b sp ne d, .int 0] s = .ex 5 [] s := by
  unfold m_Mill_worst B_Mill_worst
  walk_at "dl3"
end L13
set_option Elab.async false
set_option linter.all false
set_option maxRecDepth 100000
set_option maxHeartbeats 4000000
namespace L13
open PySem L2 DL DR
/-! a staff -/
structure Stf (rs : List PP) : Prop where
  len : 2 ≤ rs.length ∧ rs.length ≤ 10
  bd : ∀ i, i < rs.length → 0 ≤ rs[i]!.1 ∧ rs[i]!.1 ≤ 100 ∧ 0 ≤ rs[i]!.2 ∧ rs[i]!.2 ≤ 100
  up : ∀ i, i + 1 < rs.length → rs[i]!.1 < rs[i + 1]!.1
def hitB (rs : List PP) (x : Int) (k : Nat) : Bool := decide (rs[k]!.1 ≤ x) && decide (x ≤ rs[k + 1]!.1)
def stI (rs : List PP) (x : Int) (k : Nat) : Int := rs[k]!.2 + (rs[k + 1]!.2 - rs[k]!.2) * (x - rs[k]!.1) / (rs[k + 1]!.1 - rs[k]!.1)
def rdO (rs : List PP) (x : Int) : Option Int := ((List.range (rs.length - 1)).find? (hitB rs x)).map (stI rs x)
local macro_rules | `(tactic| walk_at "dl") => `(tactic| simp -implicitDefEqProofs (disch := first | omega | assumption | (simp only [okN, okNL, okNL_mi, D.has, hasL, flt, isI, isS, List.all_cons, List.all_nil, Bool.or_true, Bool.true_or, Bool.false_or, Bool.false_and, Bool.and_self, Bool.and_true, Bool.true_and]; done) | (simp only [List.length_cons, List.length_nil, List.length_append, List.length_map, List.length_range]; omega) | (simp only [okN, okNL, Bool.and_self, Bool.and_true, Bool.true_and]; decide +kernel) | decide +kernel | fail) only [atI_rows, zip_rows, cut_from, List.length_map, Int.toNat_natCast, seqB_eq, then_nx, then_rt, then_bk, then_ct, then_ex, then_bad, bind_ok, bind_ex, bind_bad, toF_ok, toF_ex, toF_bad, ofO_some, ofO_none, nx_ok, cD_eq, vD_0, vD_s, vB_0, vB_o, vB_s, bopD_eq, uopD_eq, tstD_eq, asB_bl, asI_int, deref_int, deref_bl, deref_str, deref_non, deref_tup, deref_lst, deref_dic, deref_obj, deref_scr, deref_han, chD_eq, ch3D_eq, andT_eq, orT_eq, notT_eq, ifD_eq, andD_eq, orD_eq, notD_eq, nilA_eq, consA_eq, tupD_eq, lstD_eq, fldD_eq, bltD_eq, partN_eq, partS_eq, sliceD_eq, callD_eq, gateD_eq, methD_eq, isC_obj, calmD_eq, calmN_eq, calmK_obj, hanD_eq, notObj_l, notObj_t, notObj_d, setB_eq, setOB_eq, setF_eq, setOF_eq, ifB_eq, retB_eq, retN_eq, dropB_eq, nextB_eq, breakB_eq, contB_eq, raiseA_eq, augB_eq, frzB_eq, frzL_nil, frzL_cons, frzE_zl, frzE_zd, frzE_zv, frzE_zn, frzE_s, asgB_eq, asg2B_eq, parB_eq, putAll_nil, putAll_cons, asgFB_eq, nilF_eq, consV_eq, consO_eq, gN_eq, gsN_eq, gsC_eq, gT_eq, fnD_eq, fnK_nx, fnK_rt, fnK_ex, fnK_bad, inD_eq, inK_nx, inK_ex, toldD_eq,  ite_yes, ite_no, dec_yes, dec_no, plV_eq, plK_o, plK_h, plE_eq, plEK_h, wrF_slot, wrF_han, wrS_o, wrH_s, wrSU_s, wrHU_s, fldB_eq, fldU_eq, stB_eq, stAK_s, stAugB_eq, fldAugB_eq, plcD_slot, plcD_han, plS_o, mtB_eq, mthD_eq, isLst_l, appU_l, setL_l, getL_l, ixN_ok, atI_0, atI_1, atI_2, atI_3, atI_4, atI_5, atI_6, atI_7, atI_8, atI_9, atI_10, atI_11, atI_12, atI_13, atI_14, atI_15, forB_eq, rngD_eq, iterD_eq, rng1_int, rng2_int, scrO_l, scrO_s, lstO_l, tupO_l, putK_some, goK_nx, goK_ct, goK_bk, goK_rt, goK_ex, lcD_eq, wipeE_nil, wipeE_cons, yesT_eq, lcPut_some, wipB_eq, forW_eq, preB_eq, wip_nx, wip_bk, wip_ct, wip_rt, wip_ex, wip_bad, keep_t, keep_f, keep_n, asgO_s, asgK_eq, asgFK_eq, putS_nil, putS_v, putS_o, and_self, ite_self, wrS_o, wrSU_s, true_and, and_true, false_and, and_false, decide_true, decide_false, Int.reduceLT, Int.reduceLE, Int.reduceEq, Int.reduceAdd, Int.reduceSub, Int.reduceMul, Int.reduceNeg, Int.reduceDiv, Int.reduceMod, Int.reduceNe, turnF_eq,
  cut_to, cut_from, cut_both, opCut_l, opCut_t, opCut_s, opPow_int, opAdd_tup, opAdd_lst, opEq_ts, opEq_ls, opEq_st, opEq_sl, opNe_ts, opNe_ls, opNe_st, opNe_sl, opEq_ss, opNe_ss, opEq_nn, opNe_self, opEq_self, opNe_nn, opNe_lnil, opEq_lnil, opNe_is, opEq_is, opNe_si, opEq_si, opNe_bb, opEq_bb, opAdd_int, opAug_int, opSub_int, opMul_r, opMul_l, opMulI_r, opMulI_l, opDiv_int, opMod_int, opLt_int, opLe_int, opGt_int, opGe_int, opEq_int, opNe_int, min2_int, max2_int, min3_int, min4_int, opNeg_int, listO_l, listO_t, tupleO_l, tupleO_t, zipO_ll, zipO_tt, enumO_l, lenO_l, lenO_t, opIn_lst, opIn_tup, opNin_lst, opNin_tup, eqB_ss, eqB_ii, List.any_cons, List.any_nil, gSumD_eq, gAnyD_eq, anyF_nil, anyPut_some, absO_int, intO_int, intO_bl, fldO_eq, opIx_t, opIx_l,
  Bool.true_and, Bool.and_true, Bool.false_and, Bool.and_false, List.map_cons, List.map_nil, List.length_cons, List.length_nil, List.set_cons_zero, List.set_cons_succ, List.getElem?_cons_zero, List.getElem?_cons_succ, Option.map_some, Option.bind_some, decide_eq_true_eq, Bool.not_eq_true', decide_eq_false_iff_not, Bool.not_true, Bool.false_eq_true, reduceCtorEq, Bool.not_false, ite_true, ite_false, if_true, if_false, Nat.reduceAdd, Nat.reduceLeDiff, Nat.reduceLT, Nat.reduceSub, beq_self_eq_true, Nat.reduceEqDiff, reduceIte, Int.reduceToNat, Int.reducePow, List.take_zero, List.take_nil, List.drop_nil, List.drop_zero, List.take_succ_cons, List.drop_succ_cons, forF_nil, padE, List.length_append, List.replicate, List.append_nil, List.cons_append, List.nil_append])
theorem read_any (s : DS) (rs : List PP) (H : Stf rs) (η : DL.Env) (x : Int) (hη : η = [.v (.lst (rowsD rs)), .v (.int x), .no, .no, .no, .no, .no]) : anyF true (gN 2) yesT (bopD opLe (bopD opIx (bopD opIx (vB 0) (vB 2)) (cD (.int 0))) (bopD opIx (bopD opIx (vB 0) (bopD opSub (vB 2) (cD (.int 1)))) (cD (.int 0)))) η (rngL 1 ((rs.length : Int) - 1).toNat) s = .ok (.bl false) s := by
  subst hη
  have hl := H.len
  rw [rngL_map, anyF_pure (fun i : Nat => D.int (1 + (i : Int))) (fun _ => true) (fun _ => false) (List.range _) (fun i hi => ⟨_, rfl, rfl, fun _ => by
    have hi := List.mem_range.mp hi
    have hu := H.up i (by omega)
    have e1 : (1 + (i : Int)).toNat = i + 1 := by omega
    have e2 : (1 + (i : Int) - 1).toNat = i := by omega
    have h3 : rs[(1 + (i : Int) - 1).toNat]!.1 < rs[(1 + (i : Int)).toNat]!.1 := by rw [e1, e2]; exact hu
    walk_at "dl"⟩)]
  rw [show (List.range ((rs.length : Int) - 1).toNat).any (fun a => true && false) = false by simp]
theorem read_spec (s : DS) (rs : List PP) (H : Stf rs) (x : Int) (hx : 0 ≤ x ∧ x ≤ 100) : m_read_height [.lst (rowsD rs), .int x] s = match rdO rs x with
    | some v => .ok (.int v) s
    | none => .ex 5 [] s := by
  have hl := H.len
  have ha := read_any s rs H _ x rfl
  have key := forF_find (η := E_read_height_1 (.v (.int x))) (s := s) (put := gT (gsC (gT (gsC (gN 3) (gsC (gN 4) gsN))) (gsC (gT (gsC (gN 5) (gsC (gN 6) gsN))) gsN))) (f := L_read_height_1) (fun k : Nat => D.tup [.tup [.int rs[k]!.1, .int rs[k]!.2], .tup [.int rs[k + 1]!.1, .int rs[k + 1]!.2]]) (hitB rs x) (fun k => .rt (.int (stI rs x k)) s) (fun _ _ => rfl) (List.range (rs.length - 1)) (fun k hk => ?_)
  · unfold m_read_height B_read_height S_read_height_1
    walk_at "dl"
    rw [ha]
    walk_at "dl"
    rw [key]
    unfold rdO
    cases (List.range (rs.length - 1)).find? (hitB rs x) with
    | some k =>
      simp only [Option.map_some]
      walk_at "dl"
    | none =>
      simp only [Option.map_none]
      walk_at "dl"
  · have hk := List.mem_range.mp hk
    have hu := H.up k (by omega)
    have hb := H.bd k (by omega)
    have hb2 := H.bd (k + 1) (by omega)
    unfold turnF L_read_height_1 hitB stI
    by_cases q : rs[k]!.1 ≤ x
    · by_cases q2 : x ≤ rs[k + 1]!.1
      · rw [decide_eq_true q, decide_eq_true q2]
        walk_at "dl"
      · rw [decide_eq_true q, decide_eq_false q2]
        walk_at "dl"
    · rw [decide_eq_false q]
      walk_at "dl"
def dueD : Option Int → D
  | some v => .int v
  | none => .str "no way"
theorem due_told (o : Option Int) (s : DS) : toldK toldL (match o with
    | some v => .ok (.int v) s
    | none => .ex 5 [] s) = .ok (dueD o) s := by
  cases o <;> rfl
theorem due_loop (s : DS) (rs : List PP) (H : Stf rs) (t m : Sl) (x : Int) (hx : 0 ≤ x ∧ x ≤ 100) : forF (gN 4) L_law_rest2_4 (rngL 1 ((rs.length : Int) - 1).toNat) (E_law_rest2_4 t m (.o (.lst (rowsD rs))) (.v (.int x)) (.v (.str "no way"))) s = .nx (E_law_rest2_4 t m (.o (.lst (rowsD rs))) (.v (.int x)) (.v (dueD (rdO rs x)))) s := by
  have hl := H.len
  have key := forF_fold (put := gN 4) (f := L_law_rest2_4) (fun o : Option Int => E_law_rest2_4 t m (.o (.lst (rowsD rs))) (.v (.int x)) (.v (dueD o))) (fun _ => s) (fun i : Nat => D.int (1 + (i : Int))) (keepS (hitB rs x) (stI rs x)) (fun _ => True) (List.range (rs.length - 1)) none trivial (fun k hk o _ => ⟨?_, trivial⟩)
  · rw [keep_run] at key
    rw [rngL_map, show ((rs.length : Int) - 1).toNat = rs.length - 1 by omega]
    exact key.1
  · have hk := List.mem_range.mp hk
    have hu := H.up k (by omega)
    have hb := H.bd k (by omega)
    have hb2 := H.bd (k + 1) (by omega)
    have e1 : (1 + (k : Int)).toNat = k + 1 := by omega
    have e2 : (1 + (k : Int) - 1).toNat = k := by omega
    unfold turnF L_law_rest2_4 S_law_rest2_4x_0 S_law_rest2_4x_1 S_law_rest2_4x_2
    walk_at "dl"
    simp only [e1, e2]
    unfold keepS hitB stI
    by_cases q : rs[k]!.1 ≤ x
    · by_cases q2 : x ≤ rs[k + 1]!.1
      · cases o with
        | none =>
          simp only [dueD, decide_eq_true q, decide_eq_true q2]
          walk_at "dl"
        | some v =>
          simp only [dueD]
          walk_at "dl"
      · cases o with
        | none =>
          simp only [dueD, decide_eq_true q, decide_eq_false q2]
          walk_at "dl"
        | some v =>
          simp only [dueD]
          walk_at "dl"
    · cases o with
      | none =>
        simp only [dueD, decide_eq_false q]
        walk_at "dl"
      | some v =>
        simp only [dueD]
        walk_at "dl"
end L13
set_option Elab.async false
set_option linter.all false
set_option maxRecDepth 100000
set_option maxHeartbeats 4000000
namespace L13
open PySem L2 DL DR
local macro_rules | `(tactic| walk_at "dl") => `(tactic| simp -implicitDefEqProofs (disch := first | omega | assumption | (simp only [okN, okNL, okNL_mi, D.has, hasL, flt, isI, isS, List.all_cons, List.all_nil, Bool.or_true, Bool.true_or, Bool.false_or, Bool.false_and, Bool.and_self, Bool.and_true, Bool.true_and]; done) | (simp only [List.length_cons, List.length_nil, List.length_append, List.length_map, List.length_range]; omega) | (simp only [okN, okNL, Bool.and_self, Bool.and_true, Bool.true_and]; decide +kernel) | decide +kernel | fail) only [init_bad, minit_bad, told_1, told_2, told_3, told_4, told_5, told_6, told_7, told_8, told_ok, seqB_eq, then_nx, then_rt, then_bk, then_ct, then_ex, then_bad, bind_ok, bind_ex, bind_bad, toF_ok, toF_ex, toF_bad, ofO_some, ofO_none, nx_ok, cD_eq, vD_0, vD_s, vB_0, vB_o, vB_s, bopD_eq, uopD_eq, tstD_eq, asB_bl, asI_int, deref_int, deref_bl, deref_str, deref_non, deref_tup, deref_lst, deref_dic, deref_obj, deref_scr, deref_han, chD_eq, ch3D_eq, andT_eq, orT_eq, notT_eq, ifD_eq, andD_eq, orD_eq, notD_eq, nilA_eq, consA_eq, tupD_eq, lstD_eq, fldD_eq, bltD_eq, partN_eq, partS_eq, sliceD_eq, callD_eq, gateD_eq, methD_eq, isC_obj, calmD_eq, calmN_eq, calmK_obj, hanD_eq, notObj_l, notObj_t, notObj_d, setB_eq, setOB_eq, setF_eq, setOF_eq, ifB_eq, retB_eq, retN_eq, dropB_eq, nextB_eq, breakB_eq, contB_eq, raiseA_eq, augB_eq, frzB_eq, frzL_nil, frzL_cons, frzE_zl, frzE_zd, frzE_zv, frzE_zn, frzE_s, asgB_eq, asg2B_eq, parB_eq, putAll_nil, putAll_cons, asgFB_eq, nilF_eq, consV_eq, consO_eq, gN_eq, gsN_eq, gsC_eq, gT_eq, fnD_eq, fnK_nx, fnK_rt, fnK_ex, fnK_bad, inD_eq, inK_nx, inK_ex, toldD_eq,  ite_yes, ite_no, dec_yes, dec_no, plV_eq, plK_o, plK_h, plE_eq, plEK_h, wrF_slot, wrF_han, wrS_o, wrH_s, wrSU_s, wrHU_s, fldB_eq, fldU_eq, stB_eq, stAK_s, stAugB_eq, fldAugB_eq, plcD_slot, plcD_han, plS_o, mtB_eq, mthD_eq, isLst_l, appU_l, setL_l, getL_l, ixN_ok, atI_0, atI_1, atI_2, atI_3, atI_4, atI_5, atI_6, atI_7, atI_8, atI_9, atI_10, atI_11, atI_12, atI_13, atI_14, atI_15, forB_eq, rngD_eq, iterD_eq, rng1_int, rng2_int, scrO_l, scrO_s, lstO_l, tupO_l, putK_some, goK_nx, goK_ct, goK_bk, goK_rt, goK_ex, lcD_eq, wipeE_nil, wipeE_cons, yesT_eq, lcPut_some, wipB_eq, forW_eq, preB_eq, wip_nx, wip_bk, wip_ct, wip_rt, wip_ex, wip_bad, keep_t, keep_f, keep_n, asgO_s, asgK_eq, asgFK_eq, putS_nil, putS_v, putS_o, and_self, ite_self, wrS_o, wrSU_s, true_and, and_true, false_and, and_false, decide_true, decide_false, Int.reduceLT, Int.reduceLE, Int.reduceEq, Int.reduceAdd, Int.reduceSub, Int.reduceMul, Int.reduceNeg, Int.reduceDiv, Int.reduceMod, Int.reduceNe, turnF_eq,
  cut_to, cut_from, cut_both, opCut_l, opCut_t, opCut_s, opPow_int, opAdd_tup, opAdd_lst, opEq_ts, opEq_ls, opEq_st, opEq_sl, opNe_ts, opNe_ls, opNe_st, opNe_sl, opEq_ss, opNe_ss, opEq_nn, opNe_self, opEq_self, opNe_nn, opNe_lnil, opEq_lnil, opNe_is, opEq_is, opNe_si, opEq_si, opNe_bb, opEq_bb, opAdd_int, opAug_int, opSub_int, opMul_r, opMul_l, opMulI_r, opMulI_l, opDiv_int, opMod_int, opLt_int, opLe_int, opGt_int, opGe_int, opEq_int, opNe_int, min2_int, max2_int, min3_int, min4_int, opNeg_int, listO_l, listO_t, tupleO_l, tupleO_t, zipO_ll, zipO_tt, enumO_l, lenO_l, lenO_t, opIn_lst, opIn_tup, opNin_lst, opNin_tup, eqB_ss, eqB_ii, List.any_cons, List.any_nil, gSumD_eq, gAnyD_eq, anyF_nil, anyPut_some, absO_int, intO_int, intO_bl, fldO_eq, opIx_t, opIx_l,
  Bool.true_and, Bool.and_true, Bool.false_and, Bool.and_false, List.map_cons, List.map_nil, List.length_cons, List.length_nil, List.set_cons_zero, List.set_cons_succ, List.getElem?_cons_zero, List.getElem?_cons_succ, Option.map_some, Option.bind_some, decide_eq_true_eq, Bool.not_eq_true', decide_eq_false_iff_not, Bool.not_true, Bool.false_eq_true, reduceCtorEq, Bool.not_false, ite_true, ite_false, if_true, if_false, Nat.reduceAdd, Nat.reduceLeDiff, Nat.reduceLT, Nat.reduceSub, beq_self_eq_true, Nat.reduceEqDiff, reduceIte, Int.reduceToNat, Int.reducePow, List.take_zero, List.take_nil, List.drop_nil, List.drop_zero, List.take_succ_cons, List.drop_succ_cons, forF_nil, padE, List.length_append, List.replicate, List.append_nil, List.cons_append, List.nil_append])
theorem later_bad (s : DS) : m_later_each_day [.int 0] s = .ex 1 [] s := by
  unfold m_later_each_day B_later_each_day
  walk_at "dl"
theorem later_spec (s : DS) (b : Int) (h : 1 ≤ b ∧ b ≤ 1000) : m_later_each_day [.int b] s = .ok (.int (2 * b - 1440)) s := by
  unfold m_later_each_day B_later_each_day
  walk_at "dl"
theorem twelfths_bad (s : DS) : m_twelfths [.int 1, .int 7] s = .ex 1 [] s := by
  unfold m_twelfths B_twelfths
  walk_at "dl"
theorem read_bad (s : DS) : m_read_height [.lst [.tup [.int 1, .int 1]], .int 1] s = .ex 2 [] s := by
  unfold m_read_height B_read_height
  walk_at "dl"
local macro_rules | `(tactic| walk_at "dlc") => `(tactic| simp -implicitDefEqProofs (disch := first | omega | assumption | (simp only [okN, okNL, okNL_mi, D.has, hasL, flt, isI, isS, List.all_cons, List.all_nil, Bool.or_true, Bool.true_or, Bool.false_or, Bool.false_and, Bool.and_self, Bool.and_true, Bool.true_and]; done) | (simp only [List.length_cons, List.length_nil, List.length_append, List.length_map, List.length_range]; omega) | (simp only [okN, okNL, Bool.and_self, Bool.and_true, Bool.true_and]; decide +kernel) | decide +kernel | fail) only [init_bad, minit_bad, later_bad, twelfths_bad, read_bad, told_1, told_2, told_3, told_4, told_5, told_6, told_7, told_8, told_ok, seqB_eq, then_nx, then_rt, then_bk, then_ct, then_ex, then_bad, bind_ok, bind_ex, bind_bad, toF_ok, toF_ex, toF_bad, ofO_some, ofO_none, nx_ok, cD_eq, vD_0, vD_s, vB_0, vB_o, vB_s, bopD_eq, uopD_eq, tstD_eq, asB_bl, asI_int, deref_int, deref_bl, deref_str, deref_non, deref_tup, deref_lst, deref_dic, deref_obj, deref_scr, deref_han, chD_eq, ch3D_eq, andT_eq, orT_eq, notT_eq, ifD_eq, andD_eq, orD_eq, notD_eq, nilA_eq, consA_eq, tupD_eq, lstD_eq, fldD_eq, bltD_eq, partN_eq, partS_eq, sliceD_eq, callD_eq, gateD_eq, methD_eq, isC_obj, calmD_eq, calmN_eq, calmK_obj, hanD_eq, notObj_l, notObj_t, notObj_d, setB_eq, setOB_eq, setF_eq, setOF_eq, ifB_eq, retB_eq, retN_eq, dropB_eq, nextB_eq, breakB_eq, contB_eq, raiseA_eq, augB_eq, frzB_eq, frzL_nil, frzL_cons, frzE_zl, frzE_zd, frzE_zv, frzE_zn, frzE_s, asgB_eq, asg2B_eq, parB_eq, putAll_nil, putAll_cons, asgFB_eq, nilF_eq, consV_eq, consO_eq, gN_eq, gsN_eq, gsC_eq, gT_eq, fnD_eq, fnK_nx, fnK_rt, fnK_ex, fnK_bad, inD_eq, inK_nx, inK_ex, toldD_eq,  ite_yes, ite_no, dec_yes, dec_no, plV_eq, plK_o, plK_h, plE_eq, plEK_h, wrF_slot, wrF_han, wrS_o, wrH_s, wrSU_s, wrHU_s, fldB_eq, fldU_eq, stB_eq, stAK_s, stAugB_eq, fldAugB_eq, plcD_slot, plcD_han, plS_o, mtB_eq, mthD_eq, isLst_l, appU_l, setL_l, getL_l, ixN_ok, atI_0, atI_1, atI_2, atI_3, atI_4, atI_5, atI_6, atI_7, atI_8, atI_9, atI_10, atI_11, atI_12, atI_13, atI_14, atI_15, forB_eq, rngD_eq, iterD_eq, rng1_int, rng2_int, scrO_l, scrO_s, lstO_l, tupO_l, putK_some, goK_nx, goK_ct, goK_bk, goK_rt, goK_ex, lcD_eq, wipeE_nil, wipeE_cons, yesT_eq, lcPut_some, wipB_eq, forW_eq, preB_eq, wip_nx, wip_bk, wip_ct, wip_rt, wip_ex, wip_bad, keep_t, keep_f, keep_n, asgO_s, asgK_eq, asgFK_eq, putS_nil, putS_v, putS_o, and_self, ite_self, wrS_o, wrSU_s, true_and, and_true, false_and, and_false, decide_true, decide_false, Int.reduceLT, Int.reduceLE, Int.reduceEq, Int.reduceAdd, Int.reduceSub, Int.reduceMul, Int.reduceNeg, Int.reduceDiv, Int.reduceMod, Int.reduceNe, turnF_eq,
  cut_to, cut_from, cut_both, opCut_l, opCut_t, opCut_s, opPow_int, opAdd_tup, opAdd_lst, opEq_ts, opEq_ls, opEq_st, opEq_sl, opNe_ts, opNe_ls, opNe_st, opNe_sl, opEq_ss, opNe_ss, opEq_nn, opNe_self, opEq_self, opNe_nn, opNe_lnil, opEq_lnil, opNe_is, opEq_is, opNe_si, opEq_si, opNe_bb, opEq_bb, opAdd_int, opAug_int, opSub_int, opMul_r, opMul_l, opMulI_r, opMulI_l, opDiv_int, opMod_int, opLt_int, opLe_int, opGt_int, opGe_int, opEq_int, opNe_int, min2_int, max2_int, min3_int, min4_int, opNeg_int, listO_l, listO_t, tupleO_l, tupleO_t, zipO_ll, zipO_tt, enumO_l, lenO_l, lenO_t, opIn_lst, opIn_tup, opNin_lst, opNin_tup, eqB_ss, eqB_ii, List.any_cons, List.any_nil, gSumD_eq, gAnyD_eq, anyF_nil, anyPut_some, absO_int, intO_int, intO_bl, fldO_eq, opIx_t, opIx_l,
  Bool.true_and, Bool.and_true, Bool.false_and, Bool.and_false, List.map_cons, List.map_nil, List.length_cons, List.length_nil, List.set_cons_zero, List.set_cons_succ, List.getElem?_cons_zero, List.getElem?_cons_succ, Option.map_some, Option.bind_some, decide_eq_true_eq, Bool.not_eq_true', decide_eq_false_iff_not, Bool.not_true, Bool.false_eq_true, reduceCtorEq, Bool.not_false, ite_true, ite_false, if_true, if_false, Nat.reduceAdd, Nat.reduceLeDiff, Nat.reduceLT, Nat.reduceSub, beq_self_eq_true, Nat.reduceEqDiff, reduceIte, Int.reduceToNat, Int.reducePow, List.take_zero, List.take_nil, List.drop_nil, List.drop_zero, List.take_succ_cons, List.drop_succ_cons, forF_nil, padE, List.length_append, List.replicate, List.append_nil, List.cons_append, List.nil_append])
theorem cases_ok (s : DS) : m_law_cases1 [] s = .ok (.bl true) s := by
  unfold m_law_cases1 B_law_cases1
  walk_at "dlc"
structure Mk (rs : List PP) : Prop where
  bd : ∀ i, i < rs.length → 0 ≤ rs[i]!.1 ∧ rs[i]!.1 ≤ 9 * i + 4 ∧ 0 ≤ rs[i]!.2 ∧ rs[i]!.2 ≤ 100
  up : ∀ i, i + 1 < rs.length → rs[i]!.1 < rs[i + 1]!.1
theorem Mk.add {rs : List PP} (H : Mk rs) (h : 0 < rs.length) {a b : Int} (ha : 0 ≤ a ∧ a < 9) (hb : 0 ≤ b ∧ b < 90) : Mk (rs ++ [(rs[rs.length - 1]!.1 + 1 + a, b)]) := by
  have g := H.bd (rs.length - 1) (by omega)
  constructor
  · intro i hi
    rw [List.length_append, List.length_singleton] at hi
    by_cases q : i < rs.length
    · rw [get_lt q]; exact H.bd i q
    · rw [show i = rs.length by omega, get_last]
      simp only
      omega
  · intro i hi
    rw [List.length_append, List.length_singleton] at hi
    by_cases q : i + 1 < rs.length
    · rw [get_lt q, get_lt (by omega)]; exact H.up i q
    · rw [show i + 1 = rs.length by omega, get_last, get_lt (by omega), show i = rs.length - 1 by omega]
      simp only
      omega
local macro_rules | `(tactic| walk_at "dlr") => `(tactic| simp -implicitDefEqProofs (disch := first | omega | assumption | (simp only [okN, okNL, okNL_mi, D.has, hasL, flt, isI, isS, List.all_cons, List.all_nil, Bool.or_true, Bool.true_or, Bool.false_or, Bool.false_and, Bool.and_self, Bool.and_true, Bool.true_and]; done) | (simp only [List.length_cons, List.length_nil, List.length_append, List.length_map, List.length_range]; omega) | (simp only [okN, okNL, Bool.and_self, Bool.and_true, Bool.true_and]; decide +kernel) | decide +kernel | fail) only [roll_eq, atI_rows, List.length_map, Int.toNat_natCast, seqB_eq, then_nx, then_rt, then_bk, then_ct, then_ex, then_bad, bind_ok, bind_ex, bind_bad, toF_ok, toF_ex, toF_bad, ofO_some, ofO_none, nx_ok, cD_eq, vD_0, vD_s, vB_0, vB_o, vB_s, bopD_eq, uopD_eq, tstD_eq, asB_bl, asI_int, deref_int, deref_bl, deref_str, deref_non, deref_tup, deref_lst, deref_dic, deref_obj, deref_scr, deref_han, chD_eq, ch3D_eq, andT_eq, orT_eq, notT_eq, ifD_eq, andD_eq, orD_eq, notD_eq, nilA_eq, consA_eq, tupD_eq, lstD_eq, fldD_eq, bltD_eq, partN_eq, partS_eq, sliceD_eq, callD_eq, gateD_eq, methD_eq, isC_obj, calmD_eq, calmN_eq, calmK_obj, hanD_eq, notObj_l, notObj_t, notObj_d, setB_eq, setOB_eq, setF_eq, setOF_eq, ifB_eq, retB_eq, retN_eq, dropB_eq, nextB_eq, breakB_eq, contB_eq, raiseA_eq, augB_eq, frzB_eq, frzL_nil, frzL_cons, frzE_zl, frzE_zd, frzE_zv, frzE_zn, frzE_s, asgB_eq, asg2B_eq, parB_eq, putAll_nil, putAll_cons, asgFB_eq, nilF_eq, consV_eq, consO_eq, gN_eq, gsN_eq, gsC_eq, gT_eq, fnD_eq, fnK_nx, fnK_rt, fnK_ex, fnK_bad, inD_eq, inK_nx, inK_ex, toldD_eq,  ite_yes, ite_no, dec_yes, dec_no, plV_eq, plK_o, plK_h, plE_eq, plEK_h, wrF_slot, wrF_han, wrS_o, wrH_s, wrSU_s, wrHU_s, fldB_eq, fldU_eq, stB_eq, stAK_s, stAugB_eq, fldAugB_eq, plcD_slot, plcD_han, plS_o, mtB_eq, mthD_eq, isLst_l, appU_l, setL_l, getL_l, ixN_ok, atI_0, atI_1, atI_2, atI_3, atI_4, atI_5, atI_6, atI_7, atI_8, atI_9, atI_10, atI_11, atI_12, atI_13, atI_14, atI_15, forB_eq, rngD_eq, iterD_eq, rng1_int, rng2_int, scrO_l, scrO_s, lstO_l, tupO_l, putK_some, goK_nx, goK_ct, goK_bk, goK_rt, goK_ex, lcD_eq, wipeE_nil, wipeE_cons, yesT_eq, lcPut_some, wipB_eq, forW_eq, preB_eq, wip_nx, wip_bk, wip_ct, wip_rt, wip_ex, wip_bad, keep_t, keep_f, keep_n, asgO_s, asgK_eq, asgFK_eq, putS_nil, putS_v, putS_o, and_self, ite_self, wrS_o, wrSU_s, true_and, and_true, false_and, and_false, decide_true, decide_false, Int.reduceLT, Int.reduceLE, Int.reduceEq, Int.reduceAdd, Int.reduceSub, Int.reduceMul, Int.reduceNeg, Int.reduceDiv, Int.reduceMod, Int.reduceNe, turnF_eq,
  cut_to, cut_from, cut_both, opCut_l, opCut_t, opCut_s, opPow_int, opAdd_tup, opAdd_lst, opEq_ts, opEq_ls, opEq_st, opEq_sl, opNe_ts, opNe_ls, opNe_st, opNe_sl, opEq_ss, opNe_ss, opEq_nn, opNe_self, opEq_self, opNe_nn, opNe_lnil, opEq_lnil, opNe_is, opEq_is, opNe_si, opEq_si, opNe_bb, opEq_bb, opAdd_int, opAug_int, opSub_int, opMul_r, opMul_l, opMulI_r, opMulI_l, opDiv_int, opMod_int, opLt_int, opLe_int, opGt_int, opGe_int, opEq_int, opNe_int, min2_int, max2_int, min3_int, min4_int, opNeg_int, listO_l, listO_t, tupleO_l, tupleO_t, zipO_ll, zipO_tt, enumO_l, lenO_l, lenO_t, opIn_lst, opIn_tup, opNin_lst, opNin_tup, eqB_ss, eqB_ii, List.any_cons, List.any_nil, gSumD_eq, gAnyD_eq, anyF_nil, anyPut_some, absO_int, intO_int, intO_bl, fldO_eq, opIx_t, opIx_l,
  Bool.true_and, Bool.and_true, Bool.false_and, Bool.and_false, List.map_cons, List.map_nil, List.length_cons, List.length_nil, List.set_cons_zero, List.set_cons_succ, List.getElem?_cons_zero, List.getElem?_cons_succ, Option.map_some, Option.bind_some, decide_eq_true_eq, Bool.not_eq_true', decide_eq_false_iff_not, Bool.not_true, Bool.false_eq_true, reduceCtorEq, Bool.not_false, ite_true, ite_false, if_true, if_false, Nat.reduceAdd, Nat.reduceLeDiff, Nat.reduceLT, Nat.reduceSub, beq_self_eq_true, Nat.reduceEqDiff, reduceIte, Int.reduceToNat, Int.reducePow, List.take_zero, List.take_nil, List.drop_nil, List.drop_zero, List.take_succ_cons, List.drop_succ_cons, forF_nil, padE, List.length_append, List.replicate, List.append_nil, List.cons_append, List.nil_append])
theorem mk_loop (x : Dc) (t m : Sl) (p : PP) (hp : 0 ≤ p.1 ∧ p.1 < 5 ∧ 0 ≤ p.2 ∧ p.2 < 90) (n : Nat) (hn : n ≤ 4) : ∃ x' rs, forF (gN 4) L_law_rest2_1 (rngL 0 n) (E_law_rest2_1 (.v (.han 0)) t m (.o (.lst [.tup [.int p.1, .int p.2]]))) [x.d, r] =
    .nx (E_law_rest2_1 (.v (.han 0)) t m (.o (.lst (rowsD rs)))) [Dc.d x', r] ∧ Mk rs ∧ rs.length = n + 1 := by
  rw [rngL_map]
  obtain ⟨η2, s2, e, x', rs, rfl, rfl, h1, h2⟩ := forF_rel (put := gN 4) (f := L_law_rest2_1) (η := E_law_rest2_1 (.v (.han 0)) t m (.o (.lst [.tup [.int p.1, .int p.2]]))) (s := [x.d, r]) (fun pre η s => ∃ x' rs, η = E_law_rest2_1 (.v (.han 0)) t m (.o (.lst (rowsD rs))) ∧ s = [Dc.d x', r] ∧ Mk rs ∧ rs.length = pre.length + 1) (fun i : Nat => D.int (0 + (i : Int))) (List.range n)
    ⟨x, [p], rfl, rfl, ⟨fun i hi => by
      simp at hi; subst hi; simp; omega, fun i hi => by simp at hi⟩, rfl⟩ (fun pre a post η s hl ⟨x', rs, e1, e2, h1, h2⟩ => by
      subst e1 e2
      obtain ⟨a1, a2⟩ := range_at hl
      have b1 := x'.roll_bd (m := 9) (by omega)
      have b2 := (x'.next 9).roll_bd (m := 90) (by omega)
      have e3 : (0 + (a : Int)).toNat = rs.length - 1 := by omega
      have hl2 : (rowsD rs).length ≤ 10 := by rw [List.length_map]; omega
      refine ⟨_, _, ?_, (x'.next 9).next 90, rs ++ [(rs[rs.length - 1]!.1 + 1 + x'.roll 9, (x'.next 9).roll 90)], rfl, rfl, h1.add (by omega) b1 b2, by simp [h2]⟩
      rw [rows_app]
      unfold turnF L_law_rest2_1 S_law_rest2_1x_0
      walk_at "dlr"
      simp only [e3])
  exact ⟨x', rs, e, h1, by rw [h2, List.length_range]⟩
theorem due_deref (s : DS) (o : Option Int) : deref s (dueD o) = dueD o := by cases o <;> rfl
theorem due_ok (o : Option Int) : okN 9 (dueD o) = true := by
  cases o with
  | none => decide +kernel
  | some v => simp [dueD, okN]
local macro_rules | `(tactic| walk_at "dlq") => `(tactic| simp -implicitDefEqProofs (disch := first | omega | assumption | (simp only [okN, okNL, okNL_mi, D.has, hasL, flt, isI, isS, List.all_cons, List.all_nil, Bool.or_true, Bool.true_or, Bool.false_or, Bool.false_and, Bool.and_self, Bool.and_true, Bool.true_and]; done) | (simp only [List.length_cons, List.length_nil, List.length_append, List.length_map, List.length_range]; omega) | (simp only [okN, okNL, Bool.and_self, Bool.and_true, Bool.true_and]; decide +kernel) | decide +kernel | fail) only [due_deref, due_ok, roll_eq, high_bad, on_bad, best_bad, worst_bad, cases_ok, List.length_map, Int.toNat_natCast, told_1, told_2, told_3, told_4, told_5, told_6, told_7, told_8, told_ok, seqB_eq, then_nx, then_rt, then_bk, then_ct, then_ex, then_bad, bind_ok, bind_ex, bind_bad, toF_ok, toF_ex, toF_bad, ofO_some, ofO_none, nx_ok, cD_eq, vD_0, vD_s, vB_0, vB_o, vB_s, bopD_eq, uopD_eq, tstD_eq, asB_bl, asI_int, deref_int, deref_bl, deref_str, deref_non, deref_tup, deref_lst, deref_dic, deref_obj, deref_scr, deref_han, chD_eq, ch3D_eq, andT_eq, orT_eq, notT_eq, ifD_eq, andD_eq, orD_eq, notD_eq, nilA_eq, consA_eq, tupD_eq, lstD_eq, fldD_eq, bltD_eq, partN_eq, partS_eq, sliceD_eq, callD_eq, gateD_eq, methD_eq, isC_obj, calmD_eq, calmN_eq, calmK_obj, hanD_eq, notObj_l, notObj_t, notObj_d, setB_eq, setOB_eq, setF_eq, setOF_eq, ifB_eq, retB_eq, retN_eq, dropB_eq, nextB_eq, breakB_eq, contB_eq, raiseA_eq, augB_eq, frzB_eq, frzL_nil, frzL_cons, frzE_zl, frzE_zd, frzE_zv, frzE_zn, frzE_s, asgB_eq, asg2B_eq, parB_eq, putAll_nil, putAll_cons, asgFB_eq, nilF_eq, consV_eq, consO_eq, gN_eq, gsN_eq, gsC_eq, gT_eq, fnD_eq, fnK_nx, fnK_rt, fnK_ex, fnK_bad, inD_eq, inK_nx, inK_ex, toldD_eq,  ite_yes, ite_no, dec_yes, dec_no, plV_eq, plK_o, plK_h, plE_eq, plEK_h, wrF_slot, wrF_han, wrS_o, wrH_s, wrSU_s, wrHU_s, fldB_eq, fldU_eq, stB_eq, stAK_s, stAugB_eq, fldAugB_eq, plcD_slot, plcD_han, plS_o, mtB_eq, mthD_eq, isLst_l, appU_l, setL_l, getL_l, ixN_ok, atI_0, atI_1, atI_2, atI_3, atI_4, atI_5, atI_6, atI_7, atI_8, atI_9, atI_10, atI_11, atI_12, atI_13, atI_14, atI_15, forB_eq, rngD_eq, iterD_eq, rng1_int, rng2_int, scrO_l, scrO_s, lstO_l, tupO_l, putK_some, goK_nx, goK_ct, goK_bk, goK_rt, goK_ex, lcD_eq, wipeE_nil, wipeE_cons, yesT_eq, lcPut_some, wipB_eq, forW_eq, preB_eq, wip_nx, wip_bk, wip_ct, wip_rt, wip_ex, wip_bad, keep_t, keep_f, keep_n, asgO_s, asgK_eq, asgFK_eq, putS_nil, putS_v, putS_o, and_self, ite_self, wrS_o, wrSU_s, true_and, and_true, false_and, and_false, decide_true, decide_false, Int.reduceLT, Int.reduceLE, Int.reduceEq, Int.reduceAdd, Int.reduceSub, Int.reduceMul, Int.reduceNeg, Int.reduceDiv, Int.reduceMod, Int.reduceNe, turnF_eq,
  cut_to, cut_from, cut_both, opCut_l, opCut_t, opCut_s, opPow_int, opAdd_tup, opAdd_lst, opEq_ts, opEq_ls, opEq_st, opEq_sl, opNe_ts, opNe_ls, opNe_st, opNe_sl, opEq_ss, opNe_ss, opEq_nn, opNe_self, opEq_self, opNe_nn, opNe_lnil, opEq_lnil, opNe_is, opEq_is, opNe_si, opEq_si, opNe_bb, opEq_bb, opAdd_int, opAug_int, opSub_int, opMul_r, opMul_l, opMulI_r, opMulI_l, opDiv_int, opMod_int, opLt_int, opLe_int, opGt_int, opGe_int, opEq_int, opNe_int, min2_int, max2_int, min3_int, min4_int, opNeg_int, listO_l, listO_t, tupleO_l, tupleO_t, zipO_ll, zipO_tt, enumO_l, lenO_l, lenO_t, opIn_lst, opIn_tup, opNin_lst, opNin_tup, eqB_ss, eqB_ii, List.any_cons, List.any_nil, gSumD_eq, gAnyD_eq, anyF_nil, anyPut_some, absO_int, intO_int, intO_bl, fldO_eq, opIx_t, opIx_l,
  Bool.true_and, Bool.and_true, Bool.false_and, Bool.and_false, List.map_cons, List.map_nil, List.length_cons, List.length_nil, List.set_cons_zero, List.set_cons_succ, List.getElem?_cons_zero, List.getElem?_cons_succ, Option.map_some, Option.bind_some, decide_eq_true_eq, Bool.not_eq_true', decide_eq_false_iff_not, Bool.not_true, Bool.false_eq_true, reduceCtorEq, Bool.not_false, ite_true, ite_false, if_true, if_false, Nat.reduceAdd, Nat.reduceLeDiff, Nat.reduceLT, Nat.reduceSub, beq_self_eq_true, Nat.reduceEqDiff, reduceIte, Int.reduceToNat, Int.reducePow, List.take_zero, List.take_nil, List.drop_nil, List.drop_zero, List.take_succ_cons, List.drop_succ_cons, forF_nil, padE, List.length_append, List.replicate, List.append_nil, List.cons_append, List.nil_append])
theorem rest2_ok (x : Dc) (r : D) (f b sp ne d a w t g : Int) : ∃ s', m_law_rest2 [.han 0, tide f b sp ne d, mill a w t g] [x.d, r] = .ok (.bl true) s' := by
  refine Tru.of ?_
  unfold B_law_rest2 S_law_rest2_0
  have b1 := x.roll_bd (m := 5) (by omega)
  have b2 := (x.next 5).roll_bd (m := 90) (by omega)
  walk_at "dlq"
  generalize x.roll 5 = p1 at *
  generalize x.next 5 = x1 at *
  generalize x1.roll 90 = p2 at *
  generalize x1.next 90 = x2 at *
  have b3 := x2.roll_bd (m := 3) (by omega)
  unfold S_law_rest2_1
  walk_at "dlq"
  generalize x2.roll 3 = n0 at *
  generalize x2.next 3 = x3 at *
  obtain ⟨x4, rs, e, M, hlen⟩ := mk_loop (r := r) x3 (.v (tide f b sp ne d)) (.v (mill a w t g)) (p1, p2) (by simp only; omega) (1 + n0).toNat (by omega)
  have H : Stf rs := ⟨by omega, fun i hi => by have := M.bd i hi; omega, M.up⟩
  simp only at e
  rw [e]
  walk_at "dlq"
  unfold S_law_rest2_2
  have b4 := x4.roll_bd (m := 40) (by omega)
  walk_at "dlq"
  generalize x4.roll 40 = place at *
  generalize x4.next 40 = x5 at *
  unfold S_law_rest2_3
  walk_at "dlq"
  unfold S_law_rest2_4
  walk_at "dlq"
  rw [due_loop _ rs H _ _ place (by omega)]
  walk_at "dlq"
  have od := due_ok (rdO rs place)
  refine Tru.step (by
    unfold S_law_rest2_5 S_law_rest2_5a_0
    walk_at "dlq"
    rw [read_spec _ rs H place (by omega), due_told]
    walk_at "dlq"
    rfl) ?_
  refine Tru.skip ?_ ?_
  · unfold S_law_rest2_6 S_law_rest2_6a_0
    walk_at "dlq"
  refine Tru.skip ?_ ?_
  · unfold S_law_rest2_7 S_law_rest2_7a_0
    walk_at "dlq"
  refine Tru.skip ?_ ?_
  · unfold S_law_rest2_8 S_law_rest2_8a_0
    walk_at "dlq"
  refine Tru.skip ?_ ?_
  · unfold S_law_rest2_9 S_law_rest2_9a_0
    walk_at "dlq"
  refine Tru.skip ?_ ?_
  · unfold S_law_rest2_10 S_law_rest2_10a_0
    walk_at "dlq"
  unfold S_law_rest2_11
  walk_at "dlq"
  exact Tru.end_
end L13
set_option Elab.async false
set_option linter.all false
set_option maxRecDepth 100000
set_option maxHeartbeats 4000000
namespace L13
open PySem L2 DL DR
local macro_rules | `(tactic| walk_at "dl3") => `(tactic| simp -implicitDefEqProofs (disch := first | omega | assumption | (simp only [okN, okNL, okNL_mi, D.has, hasL, flt, isI, isS, List.all_cons, List.all_nil, Bool.or_true, Bool.true_or, Bool.false_or, Bool.false_and, Bool.and_self, Bool.and_true, Bool.true_and]; done) | (simp only [List.length_cons, List.length_nil, List.length_append, List.length_map, List.length_range]; omega) | (simp only [okN, okNL, Bool.and_self, Bool.and_true, Bool.true_and]; decide +kernel) | decide +kernel | fail) only [high_spec, hours_spec, seqB_eq, then_nx, then_rt, then_bk, then_ct, then_ex, then_bad, bind_ok, bind_ex, bind_bad, toF_ok, toF_ex, toF_bad, ofO_some, ofO_none, nx_ok, cD_eq, vD_0, vD_s, vB_0, vB_o, vB_s, bopD_eq, uopD_eq, tstD_eq, asB_bl, asI_int, deref_int, deref_bl, deref_str, deref_non, deref_tup, deref_lst, deref_dic, deref_obj, deref_scr, deref_han, chD_eq, ch3D_eq, andT_eq, orT_eq, notT_eq, ifD_eq, andD_eq, orD_eq, notD_eq, nilA_eq, consA_eq, tupD_eq, lstD_eq, fldD_eq, bltD_eq, partN_eq, partS_eq, sliceD_eq, callD_eq, gateD_eq, methD_eq, isC_obj, calmD_eq, calmN_eq, calmK_obj, hanD_eq, notObj_l, notObj_t, notObj_d, setB_eq, setOB_eq, setF_eq, setOF_eq, ifB_eq, retB_eq, retN_eq, dropB_eq, nextB_eq, breakB_eq, contB_eq, raiseA_eq, augB_eq, frzB_eq, frzL_nil, frzL_cons, frzE_zl, frzE_zd, frzE_zv, frzE_zn, frzE_s, asgB_eq, asg2B_eq, parB_eq, putAll_nil, putAll_cons, asgFB_eq, nilF_eq, consV_eq, consO_eq, gN_eq, gsN_eq, gsC_eq, gT_eq, fnD_eq, fnK_nx, fnK_rt, fnK_ex, fnK_bad, inD_eq, inK_nx, inK_ex, toldD_eq,  ite_yes, ite_no, dec_yes, dec_no, plV_eq, plK_o, plK_h, plE_eq, plEK_h, wrF_slot, wrF_han, wrS_o, wrH_s, wrSU_s, wrHU_s, fldB_eq, fldU_eq, stB_eq, stAK_s, stAugB_eq, fldAugB_eq, plcD_slot, plcD_han, plS_o, mtB_eq, mthD_eq, isLst_l, appU_l, setL_l, getL_l, ixN_ok, atI_0, atI_1, atI_2, atI_3, atI_4, atI_5, atI_6, atI_7, atI_8, atI_9, atI_10, atI_11, atI_12, atI_13, atI_14, atI_15, forB_eq, rngD_eq, iterD_eq, rng1_int, rng2_int, scrO_l, scrO_s, lstO_l, tupO_l, putK_some, goK_nx, goK_ct, goK_bk, goK_rt, goK_ex, lcD_eq, wipeE_nil, wipeE_cons, yesT_eq, lcPut_some, wipB_eq, forW_eq, preB_eq, wip_nx, wip_bk, wip_ct, wip_rt, wip_ex, wip_bad, keep_t, keep_f, keep_n, asgO_s, asgK_eq, asgFK_eq, putS_nil, putS_v, putS_o, and_self, ite_self, wrS_o, wrSU_s, true_and, and_true, false_and, and_false, decide_true, decide_false, Int.reduceLT, Int.reduceLE, Int.reduceEq, Int.reduceAdd, Int.reduceSub, Int.reduceMul, Int.reduceNeg, Int.reduceDiv, Int.reduceMod, Int.reduceNe, turnF_eq,
  cut_to, cut_from, cut_both, opCut_l, opCut_t, opCut_s, opPow_int, opAdd_tup, opAdd_lst, opEq_ts, opEq_ls, opEq_st, opEq_sl, opNe_ts, opNe_ls, opNe_st, opNe_sl, opEq_ss, opNe_ss, opEq_nn, opNe_self, opEq_self, opNe_nn, opNe_lnil, opEq_lnil, opNe_is, opEq_is, opNe_si, opEq_si, opNe_bb, opEq_bb, opAdd_int, opAug_int, opSub_int, opMul_r, opMul_l, opMulI_r, opMulI_l, opDiv_int, opMod_int, opLt_int, opLe_int, opGt_int, opGe_int, opEq_int, opNe_int, min2_int, max2_int, min3_int, min4_int, opNeg_int, listO_l, listO_t, tupleO_l, tupleO_t, zipO_ll, zipO_tt, enumO_l, lenO_l, lenO_t, opIn_lst, opIn_tup, opNin_lst, opNin_tup, eqB_ss, eqB_ii, List.any_cons, List.any_nil, gSumD_eq, gAnyD_eq, anyF_nil, anyPut_some, absO_int, intO_int, intO_bl, fldO_eq, opIx_t, opIx_l,
  Bool.true_and, Bool.and_true, Bool.false_and, Bool.and_false, List.map_cons, List.map_nil, List.length_cons, List.length_nil, List.set_cons_zero, List.set_cons_succ, List.getElem?_cons_zero, List.getElem?_cons_succ, Option.map_some, Option.bind_some, decide_eq_true_eq, Bool.not_eq_true', decide_eq_false_iff_not, Bool.not_true, Bool.false_eq_true, reduceCtorEq, Bool.not_false, ite_true, ite_false, if_true, if_false, Nat.reduceAdd, Nat.reduceLeDiff, Nat.reduceLT, Nat.reduceSub, beq_self_eq_true, Nat.reduceEqDiff, reduceIte, Int.reduceToNat, Int.reducePow, List.take_zero, List.take_nil, List.drop_nil, List.drop_zero, List.take_succ_cons, List.drop_succ_cons, forF_nil, padE, List.length_append, List.replicate, List.append_nil, List.cons_append, List.nil_append])
theorem hrs_len (f b sp ne d a w t g : Int) (n : Nat) : (hrs f b sp ne d a w t g n).length = n := by simp [hrs]
theorem hrs_get (f b sp ne d a w t g : Int) {n i : Nat} (h : i < n) : (hrs f b sp ne d a w t g n)[i]! = hrI f b sp ne d a w t g (0 + (i : Int)) := by
  rw [getElem!_pos _ i (by rw [hrs_len]; exact h)]
  simp [hrs]
theorem worst_spec (s : DS) (f b sp ne d a w t g : Int) (n : Nat) (H : Td f b sp ne d) (M : Ml a w t g) (hn : 1 ≤ n ∧ n ≤ 10) : ∃ j : Nat, j < n ∧ m_Mill_worst [mill a w t g, tide f b sp ne d, .int n] s = .ok (.int (j : Int)) s ∧ minO [.lst ((hrs f b sp ne d a w t g n).map D.int)] = some (.int (hrs f b sp ne d a w t g n)[j]!) ∧ indexO (.lst ((hrs f b sp ne d a w t g n).map D.int)) [.int (hrs f b sp ne d a w t g n)[j]!] = some (.int (j : Int)) := by
  obtain ⟨m, h1, h2, h3⟩ := min_pairs (l := (List.range n).map fun i : Nat => (hrI f b sp ne d a w t g (0 + (i : Int)), (0 + (i : Int)))) (by
    intro z
    have := congrArg List.length z
    simp at this
    omega)
  obtain ⟨j, hj, rfl⟩ := List.mem_map.mp h2
  have hj := List.mem_range.mp hj
  have h4 : ∀ i : Nat, i < n → hrI f b sp ne d a w t g (0 + (j : Int)) < hrI f b sp ne d a w t g (0 + (i : Int)) ∨ (hrI f b sp ne d a w t g (0 + (j : Int)) = hrI f b sp ne d a w t g (0 + (i : Int)) ∧ j ≤ i) := fun i hi => by
    have := h3 _ (List.mem_map.mpr ⟨i, List.mem_range.mpr hi, rfl⟩)
    simp only at this
    omega
  rw [List.map_map] at h1
  have h1 : minO [.lst ((List.range n).map fun i : Nat => D.tup [.int (hrI f b sp ne d a w t g (0 + (i : Int))), .int (0 + (i : Int))])] = some (.tup [.int (hrI f b sp ne d a w t g (0 + (j : Int))), .int (0 + (j : Int))]) := h1
  refine ⟨j, hj, ?_, ?_, ?_⟩
  · unfold m_Mill_worst B_Mill_worst
    walk_at "dl3"
    rw [Int.toNat_natCast, rngL_map, lcF_all (fun i : Nat => D.int (0 + (i : Int))) (fun i : Nat => D.tup [.int (hrI f b sp ne d a w t g (0 + (i : Int))), .int (0 + (i : Int))]) (List.range n) (fun i hi => ⟨_, rfl, by walk_at "dl3", by walk_at "dl3"⟩)]
    walk_at "dl3"
    rw [h1]
    walk_at "dl3"
    rw [Int.zero_add]
  · refine min_ints (mem_get (by rw [hrs_len]; exact hj)) fun x hx => ?_
    obtain ⟨i, hi, rfl⟩ := List.mem_map.mp hx
    have hi := List.mem_range.mp hi
    rw [hrs_get _ _ _ _ _ _ _ _ _ hj]
    have := h4 i hi
    omega
  · refine index_ints (by rw [hrs_len]; exact hj) fun i hi => ?_
    rw [hrs_get _ _ _ _ _ _ _ _ _ hj, hrs_get _ _ _ _ _ _ _ _ _ (by omega)]
    have := h4 i (by omega)
    omega
/-! hours, tide by tide -/
local macro_rules | `(tactic| walk_at "dl") => `(tactic| simp -implicitDefEqProofs (disch := first | omega | assumption | (simp only [okN, okNL, okNL_mi, D.has, hasL, flt, isI, isS, List.all_cons, List.all_nil, Bool.or_true, Bool.true_or, Bool.false_or, Bool.false_and, Bool.and_self, Bool.and_true, Bool.true_and]; done) | (simp only [List.length_cons, List.length_nil, List.length_append, List.length_map, List.length_range]; omega) | (simp only [okN, okNL, Bool.and_self, Bool.and_true, Bool.true_and]; decide +kernel) | decide +kernel | fail) only [roll_eq, high_spec, height_spec, lheight_spec, llevel_spec, hours_spec, can_spec, seqB_eq, then_nx, then_rt, then_bk, then_ct, then_ex, then_bad, bind_ok, bind_ex, bind_bad, toF_ok, toF_ex, toF_bad, ofO_some, ofO_none, nx_ok, cD_eq, vD_0, vD_s, vB_0, vB_o, vB_s, bopD_eq, uopD_eq, tstD_eq, asB_bl, asI_int, deref_int, deref_bl, deref_str, deref_non, deref_tup, deref_lst, deref_dic, deref_obj, deref_scr, deref_han, chD_eq, ch3D_eq, andT_eq, orT_eq, notT_eq, ifD_eq, andD_eq, orD_eq, notD_eq, nilA_eq, consA_eq, tupD_eq, lstD_eq, fldD_eq, bltD_eq, partN_eq, partS_eq, sliceD_eq, callD_eq, gateD_eq, methD_eq, isC_obj, calmD_eq, calmN_eq, calmK_obj, hanD_eq, notObj_l, notObj_t, notObj_d, setB_eq, setOB_eq, setF_eq, setOF_eq, ifB_eq, retB_eq, retN_eq, dropB_eq, nextB_eq, breakB_eq, contB_eq, raiseA_eq, augB_eq, frzB_eq, frzL_nil, frzL_cons, frzE_zl, frzE_zd, frzE_zv, frzE_zn, frzE_s, asgB_eq, asg2B_eq, parB_eq, putAll_nil, putAll_cons, asgFB_eq, nilF_eq, consV_eq, consO_eq, gN_eq, gsN_eq, gsC_eq, gT_eq, fnD_eq, fnK_nx, fnK_rt, fnK_ex, fnK_bad, inD_eq, inK_nx, inK_ex, toldD_eq,  ite_yes, ite_no, dec_yes, dec_no, plV_eq, plK_o, plK_h, plE_eq, plEK_h, wrF_slot, wrF_han, wrS_o, wrH_s, wrSU_s, wrHU_s, fldB_eq, fldU_eq, stB_eq, stAK_s, stAugB_eq, fldAugB_eq, plcD_slot, plcD_han, plS_o, mtB_eq, mthD_eq, isLst_l, appU_l, setL_l, getL_l, ixN_ok, atI_0, atI_1, atI_2, atI_3, atI_4, atI_5, atI_6, atI_7, atI_8, atI_9, atI_10, atI_11, atI_12, atI_13, atI_14, atI_15, forB_eq, rngD_eq, iterD_eq, rng1_int, rng2_int, scrO_l, scrO_s, lstO_l, tupO_l, putK_some, goK_nx, goK_ct, goK_bk, goK_rt, goK_ex, lcD_eq, wipeE_nil, wipeE_cons, yesT_eq, lcPut_some, wipB_eq, forW_eq, preB_eq, wip_nx, wip_bk, wip_ct, wip_rt, wip_ex, wip_bad, keep_t, keep_f, keep_n, asgO_s, asgK_eq, asgFK_eq, putS_nil, putS_v, putS_o, and_self, ite_self, wrS_o, wrSU_s, true_and, and_true, false_and, and_false, decide_true, decide_false, Int.reduceLT, Int.reduceLE, Int.reduceEq, Int.reduceAdd, Int.reduceSub, Int.reduceMul, Int.reduceNeg, Int.reduceDiv, Int.reduceMod, Int.reduceNe, turnF_eq,
  cut_to, cut_from, cut_both, opCut_l, opCut_t, opCut_s, opPow_int, opAdd_tup, opAdd_lst, opEq_ts, opEq_ls, opEq_st, opEq_sl, opNe_ts, opNe_ls, opNe_st, opNe_sl, opEq_ss, opNe_ss, opEq_nn, opNe_self, opEq_self, opNe_nn, opNe_lnil, opEq_lnil, opNe_is, opEq_is, opNe_si, opEq_si, opNe_bb, opEq_bb, opAdd_int, opAug_int, opSub_int, opMul_r, opMul_l, opMulI_r, opMulI_l, opDiv_int, opMod_int, opLt_int, opLe_int, opGt_int, opGe_int, opEq_int, opNe_int, min2_int, max2_int, min3_int, min4_int, opNeg_int, listO_l, listO_t, tupleO_l, tupleO_t, zipO_ll, zipO_tt, enumO_l, lenO_l, lenO_t, opIn_lst, opIn_tup, opNin_lst, opNin_tup, eqB_ss, eqB_ii, List.any_cons, List.any_nil, gSumD_eq, gAnyD_eq, anyF_nil, anyPut_some, absO_int, intO_int, intO_bl, fldO_eq, opIx_t, opIx_l,
  Bool.true_and, Bool.and_true, Bool.false_and, Bool.and_false, List.map_cons, List.map_nil, List.length_cons, List.length_nil, List.set_cons_zero, List.set_cons_succ, List.getElem?_cons_zero, List.getElem?_cons_succ, Option.map_some, Option.bind_some, decide_eq_true_eq, Bool.not_eq_true', decide_eq_false_iff_not, Bool.not_true, Bool.false_eq_true, reduceCtorEq, Bool.not_false, ite_true, ite_false, if_true, if_false, Nat.reduceAdd, Nat.reduceLeDiff, Nat.reduceLT, Nat.reduceSub, beq_self_eq_true, Nat.reduceEqDiff, reduceIte, Int.reduceToNat, Int.reducePow, List.take_zero, List.take_nil, List.drop_nil, List.drop_zero, List.take_succ_cons, List.drop_succ_cons, forF_nil, padE, List.length_append, List.replicate, List.append_nil, List.cons_append, List.nil_append])
theorem hour_loop (s : DS) (f b sp ne d a w t g one : Int) (H : Td f b sp ne d) (M : Ml a w t g) (ho : 0 ≤ one ∧ one ≤ 10) (dice hi runs : Sl) :
    forF (gN 8) L_law_rest1_0x_1 (rngL 0 (b / 60).toNat) (E_law_rest1_0x_1 dice (.v (rowT f b sp ne d)) (.v (tide f b sp ne d)) (.v (mineT a w t g)) (.v (mill a w t g)) hi runs (.v (.int one)) (.v (.int (poI f b sp ne d a w one))) (.v (.int 0))) s =
    .nx (E_law_rest1_0x_1 dice (.v (rowT f b sp ne d)) (.v (tide f b sp ne d)) (.v (mineT a w t g)) (.v (mill a w t g)) hi runs (.v (.int one)) (.v (.int (poI f b sp ne d a w one))) (.v (.int (hrI f b sp ne d a w t g one)))) s := by
  have key := forF_fold (put := gN 8) (f := L_law_rest1_0x_1) (fun x : Int => E_law_rest1_0x_1 dice (.v (rowT f b sp ne d)) (.v (tide f b sp ne d)) (.v (mineT a w t g)) (.v (mill a w t g)) hi runs (.v (.int one)) (.v (.int (poI f b sp ne d a w one))) (.v (.int x))) (fun _ => s) (fun i : Nat => D.int (0 + (i : Int))) (hrS f b sp ne d a w t g one) (fun _ => True) (List.range (b / 60).toNat) 0 trivial (fun i hi x _ => ⟨?_, trivial⟩)
  · rw [rngL_map]
    exact key.1
  · have hi := List.mem_range.mp hi
    have o1 : 0 ≤ one * b := Int.mul_nonneg (by omega) (by omega)
    have o2 : one * b ≤ 10 * b := Int.mul_le_mul_of_nonneg_right (by omega) (by omega)
    unfold turnF L_law_rest1_0x_1 S_law_rest1_0x_1x_0 S_law_rest1_0x_1x_1 S_law_rest1_0x_1x_2 S_law_rest1_0x_1x_3 S_law_rest1_0x_1x_3a_0 S_law_rest1_0x_1x_4 hrS
    walk_at "dl"
    by_cases h1 : t ≤ poI f b sp ne d a w one - x * t
    · by_cases h2 : runB f b sp ne d a w t g one (f + one * b + 60 * (0 + (i : Int))) x = true
      · have h3 : g ≤ a + (poI f b sp ne d a w one - x * t) / w - lvI f b sp ne d (f + one * b + 60 * (0 + (i : Int))) := by simpa [runB] using h2
        rw [h2, decide_eq_true h1]
        walk_at "dl"
      · have h3 : ¬ g ≤ a + (poI f b sp ne d a w one - x * t) / w - lvI f b sp ne d (f + one * b + 60 * (0 + (i : Int))) := by simpa [runB] using h2
        have h2 : runB f b sp ne d a w t g one (f + one * b + 60 * (0 + (i : Int))) x = false := by simpa using h2
        rw [h2, decide_eq_true h1]
        walk_at "dl"
        rw [Int.add_zero]
    · rw [decide_eq_false h1]
      walk_at "dl"
      rw [Int.add_zero]
end L13
set_option Elab.async false
set_option linter.all false
set_option maxRecDepth 100000
set_option maxHeartbeats 4000000
namespace L13
open PySem L2 DL DR
theorem deref_h1 {a b : D} {s : DS} : deref (a :: b :: s) (.han 1) = b := rfl
local macro_rules | `(tactic| walk_at "dl") => `(tactic| simp -implicitDefEqProofs (disch := first | omega | assumption | (simp only [okN, okNL, okNL_mi, D.has, hasL, flt, isI, isS, List.all_cons, List.all_nil, Bool.or_true, Bool.true_or, Bool.false_or, Bool.false_and, Bool.and_self, Bool.and_true, Bool.true_and]; done) | (simp only [List.length_cons, List.length_nil, List.length_append, List.length_map, List.length_range]; omega) | (simp only [okN, okNL, Bool.and_self, Bool.and_true, Bool.true_and]; decide +kernel) | decide +kernel | fail) only [deref_h1, roll_eq, high_spec, height_spec, lheight_spec, hours_spec, List.length_map, seqB_eq, then_nx, then_rt, then_bk, then_ct, then_ex, then_bad, bind_ok, bind_ex, bind_bad, toF_ok, toF_ex, toF_bad, ofO_some, ofO_none, nx_ok, cD_eq, vD_0, vD_s, vB_0, vB_o, vB_s, bopD_eq, uopD_eq, tstD_eq, asB_bl, asI_int, deref_int, deref_bl, deref_str, deref_non, deref_tup, deref_lst, deref_dic, deref_obj, deref_scr, deref_han, chD_eq, ch3D_eq, andT_eq, orT_eq, notT_eq, ifD_eq, andD_eq, orD_eq, notD_eq, nilA_eq, consA_eq, tupD_eq, lstD_eq, fldD_eq, bltD_eq, partN_eq, partS_eq, sliceD_eq, callD_eq, gateD_eq, methD_eq, isC_obj, calmD_eq, calmN_eq, calmK_obj, hanD_eq, notObj_l, notObj_t, notObj_d, setB_eq, setOB_eq, setF_eq, setOF_eq, ifB_eq, retB_eq, retN_eq, dropB_eq, nextB_eq, breakB_eq, contB_eq, raiseA_eq, augB_eq, frzB_eq, frzL_nil, frzL_cons, frzE_zl, frzE_zd, frzE_zv, frzE_zn, frzE_s, asgB_eq, asg2B_eq, parB_eq, putAll_nil, putAll_cons, asgFB_eq, nilF_eq, consV_eq, consO_eq, gN_eq, gsN_eq, gsC_eq, gT_eq, fnD_eq, fnK_nx, fnK_rt, fnK_ex, fnK_bad, inD_eq, inK_nx, inK_ex, toldD_eq,  ite_yes, ite_no, dec_yes, dec_no, plV_eq, plK_o, plK_h, plE_eq, plEK_h, wrF_slot, wrF_han, wrS_o, wrH_s, wrSU_s, wrHU_s, fldB_eq, fldU_eq, stB_eq, stAK_s, stAugB_eq, fldAugB_eq, plcD_slot, plcD_han, plS_o, mtB_eq, mthD_eq, isLst_l, appU_l, setL_l, getL_l, ixN_ok, atI_0, atI_1, atI_2, atI_3, atI_4, atI_5, atI_6, atI_7, atI_8, atI_9, atI_10, atI_11, atI_12, atI_13, atI_14, atI_15, forB_eq, rngD_eq, iterD_eq, rng1_int, rng2_int, scrO_l, scrO_s, lstO_l, tupO_l, putK_some, goK_nx, goK_ct, goK_bk, goK_rt, goK_ex, lcD_eq, wipeE_nil, wipeE_cons, yesT_eq, lcPut_some, wipB_eq, forW_eq, preB_eq, wip_nx, wip_bk, wip_ct, wip_rt, wip_ex, wip_bad, keep_t, keep_f, keep_n, asgO_s, asgK_eq, asgFK_eq, putS_nil, putS_v, putS_o, and_self, ite_self, wrS_o, wrSU_s, true_and, and_true, false_and, and_false, decide_true, decide_false, Int.reduceLT, Int.reduceLE, Int.reduceEq, Int.reduceAdd, Int.reduceSub, Int.reduceMul, Int.reduceNeg, Int.reduceDiv, Int.reduceMod, Int.reduceNe, turnF_eq,
  cut_to, cut_from, cut_both, opCut_l, opCut_t, opCut_s, opPow_int, opAdd_tup, opAdd_lst, opEq_ts, opEq_ls, opEq_st, opEq_sl, opNe_ts, opNe_ls, opNe_st, opNe_sl, opEq_ss, opNe_ss, opEq_nn, opNe_self, opEq_self, opNe_nn, opNe_lnil, opEq_lnil, opNe_is, opEq_is, opNe_si, opEq_si, opNe_bb, opEq_bb, opAdd_int, opAug_int, opSub_int, opMul_r, opMul_l, opMulI_r, opMulI_l, opDiv_int, opMod_int, opLt_int, opLe_int, opGt_int, opGe_int, opEq_int, opNe_int, min2_int, max2_int, min3_int, min4_int, opNeg_int, listO_l, listO_t, tupleO_l, tupleO_t, zipO_ll, zipO_tt, enumO_l, lenO_l, lenO_t, opIn_lst, opIn_tup, opNin_lst, opNin_tup, eqB_ss, eqB_ii, List.any_cons, List.any_nil, gSumD_eq, gAnyD_eq, anyF_nil, anyPut_some, absO_int, intO_int, intO_bl, fldO_eq, opIx_t, opIx_l,
  Bool.true_and, Bool.and_true, Bool.false_and, Bool.and_false, List.map_cons, List.map_nil, List.length_cons, List.length_nil, List.set_cons_zero, List.set_cons_succ, List.getElem?_cons_zero, List.getElem?_cons_succ, Option.map_some, Option.bind_some, decide_eq_true_eq, Bool.not_eq_true', decide_eq_false_iff_not, Bool.not_true, Bool.false_eq_true, reduceCtorEq, Bool.not_false, ite_true, ite_false, if_true, if_false, Nat.reduceAdd, Nat.reduceLeDiff, Nat.reduceLT, Nat.reduceSub, beq_self_eq_true, Nat.reduceEqDiff, reduceIte, Int.reduceToNat, Int.reducePow, List.take_zero, List.take_nil, List.drop_nil, List.drop_zero, List.take_succ_cons, List.drop_succ_cons, forF_nil, padE, List.length_append, List.replicate, List.append_nil, List.cons_append, List.nil_append])
theorem one_loop (x : Dc) (f b sp ne d a w t g : Int) (H : Td f b sp ne d) (M : Ml a w t g) (n : Nat) (hn : n ≤ 5) (hi : Sl) :
    forF (gN 7) L_law_rest1_0 (rngL 0 n) (E_law_rest1_0 (.v (.han 0)) (.v (rowT f b sp ne d)) (.v (tide f b sp ne d)) (.v (mineT a w t g)) (.v (mill a w t g)) hi (.v (.han 1))) [x.d, .lst []] =
    .nx (E_law_rest1_0 (.v (.han 0)) (.v (rowT f b sp ne d)) (.v (tide f b sp ne d)) (.v (mineT a w t g)) (.v (mill a w t g)) hi (.v (.han 1))) [x.d, .lst ((hrs f b sp ne d a w t g n).map D.int)] := by
  rw [rngL_map]
  obtain ⟨η2, s2, e, rfl, rfl⟩ := forF_rel (put := gN 7) (f := L_law_rest1_0) (η := E_law_rest1_0 (.v (.han 0)) (.v (rowT f b sp ne d)) (.v (tide f b sp ne d)) (.v (mineT a w t g)) (.v (mill a w t g)) hi (.v (.han 1))) (s := [x.d, .lst []]) (fun pre η s => η = E_law_rest1_0 (.v (.han 0)) (.v (rowT f b sp ne d)) (.v (tide f b sp ne d)) (.v (mineT a w t g)) (.v (mill a w t g)) hi (.v (.han 1)) ∧ s = [x.d, .lst (pre.map fun i : Nat => D.int (hrI f b sp ne d a w t g (0 + (i : Int))))]) (fun i : Nat => D.int (0 + (i : Int))) (List.range n) ⟨rfl, rfl⟩ (fun pre one post η s hl ⟨e1, e2⟩ => by
      subst e1 e2
      obtain ⟨a1, a2⟩ := range_at hl
      have hl2 : (pre.map fun i : Nat => D.int (hrI f b sp ne d a w t g (0 + (i : Int)))).length ≤ 10 := by rw [List.length_map]; omega
      have hh := hour_loop [x.d, .lst (pre.map fun i : Nat => D.int (hrI f b sp ne d a w t g (0 + (i : Int))))] f b sp ne d a w t g (0 + (one : Int)) H M (by omega) (.v (.han 0)) hi (.v (.han 1))
      unfold poI at hh
      refine ⟨_, _, ?_, rfl, rfl⟩
      rw [List.map_append, List.map_singleton]
      unfold turnF L_law_rest1_0 S_law_rest1_0x_0 S_law_rest1_0x_1
      walk_at "dl"
      rw [hh]
      unfold S_law_rest1_0x_2 S_law_rest1_0x_3 S_law_rest1_0x_3a_0
      walk_at "dl")
  rw [e]
  unfold hrs
  rw [List.map_map]
  rfl
local macro_rules | `(tactic| walk_at "dlq") => `(tactic| simp -implicitDefEqProofs (disch := first | omega | assumption | (simp only [okN, okNL, okNL_mi, D.has, hasL, flt, isI, isS, List.all_cons, List.all_nil, Bool.or_true, Bool.true_or, Bool.false_or, Bool.false_and, Bool.and_self, Bool.and_true, Bool.true_and]; done) | (simp only [List.length_cons, List.length_nil, List.length_append, List.length_map, List.length_range]; omega) | (simp only [okN, okNL, Bool.and_self, Bool.and_true, Bool.true_and]; decide +kernel) | decide +kernel | fail) only [deref_h1, roll_eq, year_spec, later_spec, hrs_len, lenO_l, List.length_map, sumO_ints, seqB_eq, then_nx, then_rt, then_bk, then_ct, then_ex, then_bad, bind_ok, bind_ex, bind_bad, toF_ok, toF_ex, toF_bad, ofO_some, ofO_none, nx_ok, cD_eq, vD_0, vD_s, vB_0, vB_o, vB_s, bopD_eq, uopD_eq, tstD_eq, asB_bl, asI_int, deref_int, deref_bl, deref_str, deref_non, deref_tup, deref_lst, deref_dic, deref_obj, deref_scr, deref_han, chD_eq, ch3D_eq, andT_eq, orT_eq, notT_eq, ifD_eq, andD_eq, orD_eq, notD_eq, nilA_eq, consA_eq, tupD_eq, lstD_eq, fldD_eq, bltD_eq, partN_eq, partS_eq, sliceD_eq, callD_eq, gateD_eq, methD_eq, isC_obj, calmD_eq, calmN_eq, calmK_obj, hanD_eq, notObj_l, notObj_t, notObj_d, setB_eq, setOB_eq, setF_eq, setOF_eq, ifB_eq, retB_eq, retN_eq, dropB_eq, nextB_eq, breakB_eq, contB_eq, raiseA_eq, augB_eq, frzB_eq, frzL_nil, frzL_cons, frzE_zl, frzE_zd, frzE_zv, frzE_zn, frzE_s, asgB_eq, asg2B_eq, parB_eq, putAll_nil, putAll_cons, asgFB_eq, nilF_eq, consV_eq, consO_eq, gN_eq, gsN_eq, gsC_eq, gT_eq, fnD_eq, fnK_nx, fnK_rt, fnK_ex, fnK_bad, inD_eq, inK_nx, inK_ex, toldD_eq,  ite_yes, ite_no, dec_yes, dec_no, plV_eq, plK_o, plK_h, plE_eq, plEK_h, wrF_slot, wrF_han, wrS_o, wrH_s, wrSU_s, wrHU_s, fldB_eq, fldU_eq, stB_eq, stAK_s, stAugB_eq, fldAugB_eq, plcD_slot, plcD_han, plS_o, mtB_eq, mthD_eq, isLst_l, appU_l, setL_l, getL_l, ixN_ok, atI_0, atI_1, atI_2, atI_3, atI_4, atI_5, atI_6, atI_7, atI_8, atI_9, atI_10, atI_11, atI_12, atI_13, atI_14, atI_15, forB_eq, rngD_eq, iterD_eq, rng1_int, rng2_int, scrO_l, scrO_s, lstO_l, tupO_l, putK_some, goK_nx, goK_ct, goK_bk, goK_rt, goK_ex, lcD_eq, wipeE_nil, wipeE_cons, yesT_eq, lcPut_some, wipB_eq, forW_eq, preB_eq, wip_nx, wip_bk, wip_ct, wip_rt, wip_ex, wip_bad, keep_t, keep_f, keep_n, asgO_s, asgK_eq, asgFK_eq, putS_nil, putS_v, putS_o, and_self, ite_self, wrS_o, wrSU_s, true_and, and_true, false_and, and_false, decide_true, decide_false, Int.reduceLT, Int.reduceLE, Int.reduceEq, Int.reduceAdd, Int.reduceSub, Int.reduceMul, Int.reduceNeg, Int.reduceDiv, Int.reduceMod, Int.reduceNe, turnF_eq,
  cut_to, cut_from, cut_both, opCut_l, opCut_t, opCut_s, opPow_int, opAdd_tup, opAdd_lst, opEq_ts, opEq_ls, opEq_st, opEq_sl, opNe_ts, opNe_ls, opNe_st, opNe_sl, opEq_ss, opNe_ss, opEq_nn, opNe_self, opEq_self, opNe_nn, opNe_lnil, opEq_lnil, opNe_is, opEq_is, opNe_si, opEq_si, opNe_bb, opEq_bb, opAdd_int, opAug_int, opSub_int, opMul_r, opMul_l, opMulI_r, opMulI_l, opDiv_int, opMod_int, opLt_int, opLe_int, opGt_int, opGe_int, opEq_int, opNe_int, min2_int, max2_int, min3_int, min4_int, opNeg_int, listO_l, listO_t, tupleO_l, tupleO_t, zipO_ll, zipO_tt, enumO_l, lenO_l, lenO_t, opIn_lst, opIn_tup, opNin_lst, opNin_tup, eqB_ss, eqB_ii, List.any_cons, List.any_nil, gSumD_eq, gAnyD_eq, anyF_nil, anyPut_some, absO_int, intO_int, intO_bl, fldO_eq, opIx_t, opIx_l,
  Bool.true_and, Bool.and_true, Bool.false_and, Bool.and_false, List.map_cons, List.map_nil, List.length_cons, List.length_nil, List.set_cons_zero, List.set_cons_succ, List.getElem?_cons_zero, List.getElem?_cons_succ, Option.map_some, Option.bind_some, decide_eq_true_eq, Bool.not_eq_true', decide_eq_false_iff_not, Bool.not_true, Bool.false_eq_true, reduceCtorEq, Bool.not_false, ite_true, ite_false, if_true, if_false, Nat.reduceAdd, Nat.reduceLeDiff, Nat.reduceLT, Nat.reduceSub, beq_self_eq_true, Nat.reduceEqDiff, reduceIte, Int.reduceToNat, Int.reducePow, List.take_zero, List.take_nil, List.drop_nil, List.drop_zero, List.take_succ_cons, List.drop_succ_cons, forF_nil, padE, List.length_append, List.replicate, List.append_nil, List.cons_append, List.nil_append])
theorem twelfths_spec (s : DS) (h k : Int) (hh : 0 ≤ h) (hk : 0 ≤ k ∧ k < 7) : m_twelfths [.int h, .int k] s = .ok (.int (h * (if k = 0 then 0 else if k = 1 then 1 else if k = 2 then 3 else if k = 3 then 6 else if k = 4 then 9 else if k = 5 then 11 else 12) / 12)) s := by
  rcases (show k = 0 ∨ k = 1 ∨ k = 2 ∨ k = 3 ∨ k = 4 ∨ k = 5 ∨ k = 6 by omega) with e | e | e | e | e | e | e <;> subst e <;> unfold m_twelfths B_twelfths <;> walk_at "dl"
theorem steps_sum (k : Int) (hk : 0 ≤ k ∧ k < 7) : sumO [.lst (([D.int 0, .int 1, .int 2, .int 3, .int 3, .int 2, .int 1] : List D).take (k + 1).toNat)] = some (.int (if k = 0 then 0 else if k = 1 then 1 else if k = 2 then 3 else if k = 3 then 6 else if k = 4 then 9 else if k = 5 then 11 else 12)) := by
  rcases (show k = 0 ∨ k = 1 ∨ k = 2 ∨ k = 3 ∨ k = 4 ∨ k = 5 ∨ k = 6 by omega) with e | e | e | e | e | e | e <;> subst e <;> rfl
theorem rest1_ok (x : Dc) (f b sp ne d a w t g h : Int) (H : Td f b sp ne d) (M : Ml a w t g) (hh : 0 ≤ h ∧ h < 1000) : ∃ s', m_law_rest1 [.han 0, rowT f b sp ne d, tide f b sp ne d, mineT a w t g, mill a w t g, .int h, .han 1] [x.d, .lst []] = .ok (.bl true) s' := by
  refine Tru.of ?_
  unfold B_law_rest1 S_law_rest1_0
  have b1 := x.roll_bd (m := 5) (by omega)
  walk_at "dlq"
  generalize x.roll 5 = n0 at *
  generalize x.next 5 = x1 at *
  obtain ⟨n, hn⟩ : ∃ n : Nat, n = (1 + n0).toNat := ⟨_, rfl⟩
  rw [← hn, one_loop x1 f b sp ne d a w t g H M n (by omega) (.v (.int h))]
  walk_at "dlq"
  obtain ⟨j, hj, w1, w2, w3⟩ := worst_spec [x1.d, .lst ((hrs f b sp ne d a w t g n).map D.int)] f b sp ne d a w t g n H M (by omega)
  refine Tru.skip ?_ ?_
  · unfold S_law_rest1_1 S_law_rest1_1a_0
    walk_at "dlq"
    rw [w1]
    walk_at "dlq"
    rw [w2]
    walk_at "dlq"
    rw [w3]
    walk_at "dlq"
  refine Tru.skip ?_ ?_
  · unfold S_law_rest1_2 S_law_rest1_2a_0
    walk_at "dlq"
  unfold S_law_rest1_3
  have b2 := x1.roll_bd (m := 7) (by omega)
  walk_at "dlq"
  generalize x1.roll 7 = k at *
  generalize x1.next 7 = x2 at *
  refine Tru.skip ?_ ?_
  · have ts := twelfths_spec [x2.d, .lst ((hrs f b sp ne d a w t g n).map D.int)] h k hh.1 b2
    have ss := steps_sum k b2
    unfold S_law_rest1_4 S_law_rest1_4a_0
    walk_at "dlq"
    rw [ts]
    walk_at "dlq"
    rw [ss]
    walk_at "dlq"
  obtain ⟨s', hr⟩ := rest2_ok x2 (.lst ((hrs f b sp ne d a w t g n).map D.int)) f b sp ne d a w t g
  unfold S_law_rest1_5
  walk_at "dlq"
  rw [hr]
  walk_at "dlq"
  exact Tru.end_
end L13
set_option Elab.async false
set_option linter.all false
set_option maxRecDepth 100000
set_option maxHeartbeats 4000000
namespace L13
open PySem L2 DL DR
local macro_rules | `(tactic| walk_at "dl") => `(tactic| simp -implicitDefEqProofs (disch := first | omega | assumption | (simp only [okN, okNL, okNL_mi, D.has, hasL, flt, isI, isS, List.all_cons, List.all_nil, Bool.or_true, Bool.true_or, Bool.false_or, Bool.false_and, Bool.and_self, Bool.and_true, Bool.true_and]; done) | (simp only [List.length_cons, List.length_nil, List.length_append, List.length_map, List.length_range]; omega) | (simp only [okN, okNL, Bool.and_self, Bool.and_true, Bool.true_and]; decide +kernel) | decide +kernel | fail) only [roll_eq, init_spec, key_spec, high_spec, next_spec, height_spec, lheight_spec, minit_spec, mkey_spec, filled_spec, List.length_map, seqB_eq, then_nx, then_rt, then_bk, then_ct, then_ex, then_bad, bind_ok, bind_ex, bind_bad, toF_ok, toF_ex, toF_bad, ofO_some, ofO_none, nx_ok, cD_eq, vD_0, vD_s, vB_0, vB_o, vB_s, bopD_eq, uopD_eq, tstD_eq, asB_bl, asI_int, deref_int, deref_bl, deref_str, deref_non, deref_tup, deref_lst, deref_dic, deref_obj, deref_scr, deref_han, chD_eq, ch3D_eq, andT_eq, orT_eq, notT_eq, ifD_eq, andD_eq, orD_eq, notD_eq, nilA_eq, consA_eq, tupD_eq, lstD_eq, fldD_eq, bltD_eq, partN_eq, partS_eq, sliceD_eq, callD_eq, gateD_eq, methD_eq, isC_obj, calmD_eq, calmN_eq, calmK_obj, hanD_eq, notObj_l, notObj_t, notObj_d, setB_eq, setOB_eq, setF_eq, setOF_eq, ifB_eq, retB_eq, retN_eq, dropB_eq, nextB_eq, breakB_eq, contB_eq, raiseA_eq, augB_eq, frzB_eq, frzL_nil, frzL_cons, frzE_zl, frzE_zd, frzE_zv, frzE_zn, frzE_s, asgB_eq, asg2B_eq, parB_eq, putAll_nil, putAll_cons, asgFB_eq, nilF_eq, consV_eq, consO_eq, gN_eq, gsN_eq, gsC_eq, gT_eq, fnD_eq, fnK_nx, fnK_rt, fnK_ex, fnK_bad, inD_eq, inK_nx, inK_ex, toldD_eq,  ite_yes, ite_no, dec_yes, dec_no, plV_eq, plK_o, plK_h, plE_eq, plEK_h, wrF_slot, wrF_han, wrS_o, wrH_s, wrSU_s, wrHU_s, fldB_eq, fldU_eq, stB_eq, stAK_s, stAugB_eq, fldAugB_eq, plcD_slot, plcD_han, plS_o, mtB_eq, mthD_eq, isLst_l, appU_l, setL_l, getL_l, ixN_ok, atI_0, atI_1, atI_2, atI_3, atI_4, atI_5, atI_6, atI_7, atI_8, atI_9, atI_10, atI_11, atI_12, atI_13, atI_14, atI_15, forB_eq, rngD_eq, iterD_eq, rng1_int, rng2_int, scrO_l, scrO_s, lstO_l, tupO_l, putK_some, goK_nx, goK_ct, goK_bk, goK_rt, goK_ex, lcD_eq, wipeE_nil, wipeE_cons, yesT_eq, lcPut_some, wipB_eq, forW_eq, preB_eq, wip_nx, wip_bk, wip_ct, wip_rt, wip_ex, wip_bad, keep_t, keep_f, keep_n, asgO_s, asgK_eq, asgFK_eq, putS_nil, putS_v, putS_o, and_self, ite_self, wrS_o, wrSU_s, true_and, and_true, false_and, and_false, decide_true, decide_false, Int.reduceLT, Int.reduceLE, Int.reduceEq, Int.reduceAdd, Int.reduceSub, Int.reduceMul, Int.reduceNeg, Int.reduceDiv, Int.reduceMod, Int.reduceNe, turnF_eq,
  cut_to, cut_from, cut_both, opCut_l, opCut_t, opCut_s, opPow_int, opAdd_tup, opAdd_lst, opEq_ts, opEq_ls, opEq_st, opEq_sl, opNe_ts, opNe_ls, opNe_st, opNe_sl, opEq_ss, opNe_ss, opEq_nn, opNe_self, opEq_self, opNe_nn, opNe_lnil, opEq_lnil, opNe_is, opEq_is, opNe_si, opEq_si, opNe_bb, opEq_bb, opAdd_int, opAug_int, opSub_int, opMul_r, opMul_l, opMulI_r, opMulI_l, opDiv_int, opMod_int, opLt_int, opLe_int, opGt_int, opGe_int, opEq_int, opNe_int, min2_int, max2_int, min3_int, min4_int, opNeg_int, listO_l, listO_t, tupleO_l, tupleO_t, zipO_ll, zipO_tt, enumO_l, lenO_l, lenO_t, opIn_lst, opIn_tup, opNin_lst, opNin_tup, eqB_ss, eqB_ii, List.any_cons, List.any_nil, gSumD_eq, gAnyD_eq, anyF_nil, anyPut_some, absO_int, intO_int, intO_bl, fldO_eq, opIx_t, opIx_l,
  Bool.true_and, Bool.and_true, Bool.false_and, Bool.and_false, List.map_cons, List.map_nil, List.length_cons, List.length_nil, List.set_cons_zero, List.set_cons_succ, List.getElem?_cons_zero, List.getElem?_cons_succ, Option.map_some, Option.bind_some, decide_eq_true_eq, Bool.not_eq_true', decide_eq_false_iff_not, Bool.not_true, Bool.false_eq_true, reduceCtorEq, Bool.not_false, ite_true, ite_false, if_true, if_false, Nat.reduceAdd, Nat.reduceLeDiff, Nat.reduceLT, Nat.reduceSub, beq_self_eq_true, Nat.reduceEqDiff, reduceIte, Int.reduceToNat, Int.reducePow, List.take_zero, List.take_nil, List.drop_nil, List.drop_zero, List.take_succ_cons, List.drop_succ_cons, forF_nil, padE, List.length_append, List.replicate, List.append_nil, List.cons_append, List.nil_append])
theorem first_is (f b m : Int) (hf : 0 ≤ f) (hb : 600 ≤ b) (hm : m ≤ 9000) : ∃ t, ((List.range 40).filter fun k : Nat => decide (m ≤ f + (0 + (k : Int)) * b)).map (fun k : Nat => D.int (0 + (k : Int))) = .int (nI f b m) :: t := by
  obtain ⟨a0, a1, a2⟩ := nI_spec (f := f) (m := m) (show 0 < b by omega)
  have a4 := nI_bd (f := f) (b := b) (m := m) (c := 20) hf hb (by omega)
  have hp : ∀ k : Nat, k < 40 → (decide (m ≤ f + (0 + (k : Int)) * b) = true ↔ (nI f b m).toNat ≤ k ∧ k < (nI f b m).toNat + (40 - (nI f b m).toNat)) := fun k hk => by
    rw [decide_eq_true_eq, nI_iff (by omega) (by omega)]
    omega
  rw [filter_mid (by omega) hp, show 40 - (nI f b m).toNat = (39 - (nI f b m).toNat) + 1 by omega, List.range_succ_eq_map, List.map_cons, List.map_cons, Nat.add_zero, show 0 + ((nI f b m).toNat : Int) = nI f b m by omega]
  exact ⟨_, rfl⟩
local macro_rules | `(tactic| walk_at "dlc") => `(tactic| simp -implicitDefEqProofs (disch := first | omega | assumption | (simp only [okN, okNL, okNL_mi, D.has, hasL, flt, isI, isS, List.all_cons, List.all_nil, Bool.or_true, Bool.true_or, Bool.false_or, Bool.false_and, Bool.and_self, Bool.and_true, Bool.true_and]; done) | (simp only [List.length_cons, List.length_nil, List.length_append, List.length_map, List.length_range]; omega) | (simp only [okN, okNL, Bool.and_self, Bool.and_true, Bool.true_and]; decide +kernel) | decide +kernel | fail) only [roll_eq, List.length_map, lenO_l, seqB_eq, then_nx, then_rt, then_bk, then_ct, then_ex, then_bad, bind_ok, bind_ex, bind_bad, toF_ok, toF_ex, toF_bad, ofO_some, ofO_none, nx_ok, cD_eq, vD_0, vD_s, vB_0, vB_o, vB_s, bopD_eq, uopD_eq, tstD_eq, asB_bl, asI_int, deref_int, deref_bl, deref_str, deref_non, deref_tup, deref_lst, deref_dic, deref_obj, deref_scr, deref_han, chD_eq, ch3D_eq, andT_eq, orT_eq, notT_eq, ifD_eq, andD_eq, orD_eq, notD_eq, nilA_eq, consA_eq, tupD_eq, lstD_eq, fldD_eq, bltD_eq, partN_eq, partS_eq, sliceD_eq, callD_eq, gateD_eq, methD_eq, isC_obj, calmD_eq, calmN_eq, calmK_obj, hanD_eq, notObj_l, notObj_t, notObj_d, setB_eq, setOB_eq, setF_eq, setOF_eq, ifB_eq, retB_eq, retN_eq, dropB_eq, nextB_eq, breakB_eq, contB_eq, raiseA_eq, augB_eq, frzB_eq, frzL_nil, frzL_cons, frzE_zl, frzE_zd, frzE_zv, frzE_zn, frzE_s, asgB_eq, asg2B_eq, parB_eq, putAll_nil, putAll_cons, asgFB_eq, nilF_eq, consV_eq, consO_eq, gN_eq, gsN_eq, gsC_eq, gT_eq, fnD_eq, fnK_nx, fnK_rt, fnK_ex, fnK_bad, inD_eq, inK_nx, inK_ex, toldD_eq,  ite_yes, ite_no, dec_yes, dec_no, plV_eq, plK_o, plK_h, plE_eq, plEK_h, wrF_slot, wrF_han, wrS_o, wrH_s, wrSU_s, wrHU_s, fldB_eq, fldU_eq, stB_eq, stAK_s, stAugB_eq, fldAugB_eq, plcD_slot, plcD_han, plS_o, mtB_eq, mthD_eq, isLst_l, appU_l, setL_l, getL_l, ixN_ok, atI_0, atI_1, atI_2, atI_3, atI_4, atI_5, atI_6, atI_7, atI_8, atI_9, atI_10, atI_11, atI_12, atI_13, atI_14, atI_15, forB_eq, rngD_eq, iterD_eq, rng1_int, rng2_int, scrO_l, scrO_s, lstO_l, tupO_l, putK_some, goK_nx, goK_ct, goK_bk, goK_rt, goK_ex, lcD_eq, wipeE_nil, wipeE_cons, yesT_eq, lcPut_some, wipB_eq, forW_eq, preB_eq, wip_nx, wip_bk, wip_ct, wip_rt, wip_ex, wip_bad, keep_t, keep_f, keep_n, asgO_s, asgK_eq, asgFK_eq, putS_nil, putS_v, putS_o, and_self, ite_self, wrS_o, wrSU_s, true_and, and_true, false_and, and_false, decide_true, decide_false, Int.reduceLT, Int.reduceLE, Int.reduceEq, Int.reduceAdd, Int.reduceSub, Int.reduceMul, Int.reduceNeg, Int.reduceDiv, Int.reduceMod, Int.reduceNe, turnF_eq,
  cut_to, cut_from, cut_both, opCut_l, opCut_t, opCut_s, opPow_int, opAdd_tup, opAdd_lst, opEq_ts, opEq_ls, opEq_st, opEq_sl, opNe_ts, opNe_ls, opNe_st, opNe_sl, opEq_ss, opNe_ss, opEq_nn, opNe_self, opEq_self, opNe_nn, opNe_lnil, opEq_lnil, opNe_is, opEq_is, opNe_si, opEq_si, opNe_bb, opEq_bb, opAdd_int, opAug_int, opSub_int, opMul_r, opMul_l, opMulI_r, opMulI_l, opDiv_int, opMod_int, opLt_int, opLe_int, opGt_int, opGe_int, opEq_int, opNe_int, min2_int, max2_int, min3_int, min4_int, opNeg_int, listO_l, listO_t, tupleO_l, tupleO_t, zipO_ll, zipO_tt, enumO_l, lenO_l, lenO_t, opIn_lst, opIn_tup, opNin_lst, opNin_tup, eqB_ss, eqB_ii, List.any_cons, List.any_nil, gSumD_eq, gAnyD_eq, anyF_nil, anyPut_some, absO_int, intO_int, intO_bl, fldO_eq, opIx_t, opIx_l,
  Bool.true_and, Bool.and_true, Bool.false_and, Bool.and_false, List.map_cons, List.map_nil, List.length_cons, List.length_nil, List.set_cons_zero, List.set_cons_succ, List.getElem?_cons_zero, List.getElem?_cons_succ, Option.map_some, Option.bind_some, decide_eq_true_eq, Bool.not_eq_true', decide_eq_false_iff_not, Bool.not_true, Bool.false_eq_true, reduceCtorEq, Bool.not_false, ite_true, ite_false, if_true, if_false, Nat.reduceAdd, Nat.reduceLeDiff, Nat.reduceLT, Nat.reduceSub, beq_self_eq_true, Nat.reduceEqDiff, reduceIte, Int.reduceToNat, Int.reducePow, List.take_zero, List.take_nil, List.drop_nil, List.drop_zero, List.take_succ_cons, List.drop_succ_cons, forF_nil, padE, List.length_append, List.replicate, List.append_nil, List.cons_append, List.nil_append])
theorem cnt_loop (s : DS) (f b l k days : Int) (hb : 600 ≤ b ∧ b < 800) (hd : 1 ≤ days ∧ days ≤ 8) (dice tide : Sl) (d : D) :
    forF (gN 11) L_law_0x_16 (rngL 0 days.toNat) (E_law_0x_16 dice (.v (.tup [.int f, .int b, r3, r4, r5])) (.v (.int k)) (.o (.lst [])) tide (.v (.int days)) (.v (.int l))) s =
    .nx (E_law_0x_16 dice (.v (.tup [.int f, .int b, r3, r4, r5])) (.v (.int k)) (.o (.lst (cntL f b l k days))) tide (.v (.int days)) (.v (.int l))) s := by
  rw [rngL_map]
  have key := forF_app (put := gN 11) (f := L_law_0x_16) (s := s) (fun rows => E_law_0x_16 dice (.v (.tup [.int f, .int b, r3, r4, r5])) (.v (.int k)) (.o (.lst rows)) tide (.v (.int days)) (.v (.int l))) (fun i : Nat => D.int (0 + (i : Int))) (fun i : Nat => [D.int (cntI f b l k (0 + (i : Int)))]) 1 (List.range days.toNat) [] (fun _ _ => Nat.le_refl _) (by rw [List.length_range, List.length_nil]; omega) (fun i hi rows hr => by
    have hi := List.mem_range.mp hi
    unfold turnF L_law_0x_16 S_law_0x_16x_0 cntI
    walk_at "dlc"
    rw [rngL_map, lcF_pure (fun j : Nat => D.int (0 + (j : Int))) (fun j => decide (l ≤ gI f b (0 + (i : Int)) j) && decide (gI f b (0 + (i : Int)) j < k)) (fun j : Nat => D.int (0 + (j : Int))) (List.range 40) (fun j hj => ⟨_, rfl, by
      unfold gI
      by_cases c1 : l ≤ f + (0 + (j : Int)) * b - 1440 * (0 + (i : Int))
      · by_cases c2 : f + (0 + (j : Int)) * b - 1440 * (0 + (i : Int)) < k
        · rw [decide_eq_true c1, decide_eq_true c2]
          walk_at "dlc"
        · rw [decide_eq_true c1, decide_eq_false c2]
          walk_at "dlc"
      · rw [decide_eq_false c1]
        walk_at "dlc", fun _ => by walk_at "dlc"⟩)]
    walk_at "dlc")
  rw [key, List.nil_append]
  unfold cntL
  rw [List.map_eq_flatMap]
local macro_rules | `(tactic| walk_at "dlv") => `(tactic| simp -implicitDefEqProofs (disch := first | omega | assumption | (simp only [okN, okNL, okNL_mi, D.has, hasL, flt, isI, isS, List.all_cons, List.all_nil, Bool.or_true, Bool.true_or, Bool.false_or, Bool.false_and, Bool.and_self, Bool.and_true, Bool.true_and]; done) | (simp only [List.length_cons, List.length_nil, List.length_append, List.length_map, List.length_range]; omega) | (simp only [okN, okNL, Bool.and_self, Bool.and_true, Bool.true_and]; decide +kernel) | decide +kernel | fail) only [roll_eq, level_spec, llevel_spec, lcF_cons, lcF_nil, seqB_eq, then_nx, then_rt, then_bk, then_ct, then_ex, then_bad, bind_ok, bind_ex, bind_bad, toF_ok, toF_ex, toF_bad, ofO_some, ofO_none, nx_ok, cD_eq, vD_0, vD_s, vB_0, vB_o, vB_s, bopD_eq, uopD_eq, tstD_eq, asB_bl, asI_int, deref_int, deref_bl, deref_str, deref_non, deref_tup, deref_lst, deref_dic, deref_obj, deref_scr, deref_han, chD_eq, ch3D_eq, andT_eq, orT_eq, notT_eq, ifD_eq, andD_eq, orD_eq, notD_eq, nilA_eq, consA_eq, tupD_eq, lstD_eq, fldD_eq, bltD_eq, partN_eq, partS_eq, sliceD_eq, callD_eq, gateD_eq, methD_eq, isC_obj, calmD_eq, calmN_eq, calmK_obj, hanD_eq, notObj_l, notObj_t, notObj_d, setB_eq, setOB_eq, setF_eq, setOF_eq, ifB_eq, retB_eq, retN_eq, dropB_eq, nextB_eq, breakB_eq, contB_eq, raiseA_eq, augB_eq, frzB_eq, frzL_nil, frzL_cons, frzE_zl, frzE_zd, frzE_zv, frzE_zn, frzE_s, asgB_eq, asg2B_eq, parB_eq, putAll_nil, putAll_cons, asgFB_eq, nilF_eq, consV_eq, consO_eq, gN_eq, gsN_eq, gsC_eq, gT_eq, fnD_eq, fnK_nx, fnK_rt, fnK_ex, fnK_bad, inD_eq, inK_nx, inK_ex, toldD_eq,  ite_yes, ite_no, dec_yes, dec_no, plV_eq, plK_o, plK_h, plE_eq, plEK_h, wrF_slot, wrF_han, wrS_o, wrH_s, wrSU_s, wrHU_s, fldB_eq, fldU_eq, stB_eq, stAK_s, stAugB_eq, fldAugB_eq, plcD_slot, plcD_han, plS_o, mtB_eq, mthD_eq, isLst_l, appU_l, setL_l, getL_l, ixN_ok, atI_0, atI_1, atI_2, atI_3, atI_4, atI_5, atI_6, atI_7, atI_8, atI_9, atI_10, atI_11, atI_12, atI_13, atI_14, atI_15, forB_eq, rngD_eq, iterD_eq, rng1_int, rng2_int, scrO_l, scrO_s, lstO_l, tupO_l, putK_some, goK_nx, goK_ct, goK_bk, goK_rt, goK_ex, lcD_eq, wipeE_nil, wipeE_cons, yesT_eq, lcPut_some, wipB_eq, forW_eq, preB_eq, wip_nx, wip_bk, wip_ct, wip_rt, wip_ex, wip_bad, keep_t, keep_f, keep_n, asgO_s, asgK_eq, asgFK_eq, putS_nil, putS_v, putS_o, and_self, ite_self, wrS_o, wrSU_s, true_and, and_true, false_and, and_false, decide_true, decide_false, Int.reduceLT, Int.reduceLE, Int.reduceEq, Int.reduceAdd, Int.reduceSub, Int.reduceMul, Int.reduceNeg, Int.reduceDiv, Int.reduceMod, Int.reduceNe, turnF_eq,
  cut_to, cut_from, cut_both, opCut_l, opCut_t, opCut_s, opPow_int, opAdd_tup, opAdd_lst, opEq_ts, opEq_ls, opEq_st, opEq_sl, opNe_ts, opNe_ls, opNe_st, opNe_sl, opEq_ss, opNe_ss, opEq_nn, opNe_self, opEq_self, opNe_nn, opNe_lnil, opEq_lnil, opNe_is, opEq_is, opNe_si, opEq_si, opNe_bb, opEq_bb, opAdd_int, opAug_int, opSub_int, opMul_r, opMul_l, opMulI_r, opMulI_l, opDiv_int, opMod_int, opLt_int, opLe_int, opGt_int, opGe_int, opEq_int, opNe_int, min2_int, max2_int, min3_int, min4_int, opNeg_int, listO_l, listO_t, tupleO_l, tupleO_t, zipO_ll, zipO_tt, enumO_l, lenO_l, lenO_t, opIn_lst, opIn_tup, opNin_lst, opNin_tup, eqB_ss, eqB_ii, List.any_cons, List.any_nil, gSumD_eq, gAnyD_eq, anyF_nil, anyPut_some, absO_int, intO_int, intO_bl, fldO_eq, opIx_t, opIx_l,
  Bool.true_and, Bool.and_true, Bool.false_and, Bool.and_false, List.map_cons, List.map_nil, List.length_cons, List.length_nil, List.set_cons_zero, List.set_cons_succ, List.getElem?_cons_zero, List.getElem?_cons_succ, Option.map_some, Option.bind_some, decide_eq_true_eq, Bool.not_eq_true', decide_eq_false_iff_not, Bool.not_true, Bool.false_eq_true, reduceCtorEq, Bool.not_false, ite_true, ite_false, if_true, if_false, Nat.reduceAdd, Nat.reduceLeDiff, Nat.reduceLT, Nat.reduceSub, beq_self_eq_true, Nat.reduceEqDiff, reduceIte, Int.reduceToNat, Int.reducePow, List.take_zero, List.take_nil, List.drop_nil, List.drop_zero, List.take_succ_cons, List.drop_succ_cons, forF_nil, padE, List.length_append, List.replicate, List.append_nil, List.cons_append, List.nil_append])
local macro_rules | `(tactic| walk_at "dlo") => `(tactic| simp -implicitDefEqProofs (disch := first | omega | assumption | (simp only [okN, okNL, okNL_mi, D.has, hasL, flt, isI, isS, List.all_cons, List.all_nil, Bool.or_true, Bool.true_or, Bool.false_or, Bool.false_and, Bool.and_self, Bool.and_true, Bool.true_and]; done) | (simp only [List.length_cons, List.length_nil, List.length_append, List.length_map, List.length_range]; omega) | (simp only [okN, okNL, Bool.and_self, Bool.and_true, Bool.true_and]; decide +kernel) | decide +kernel | fail) only [roll_eq, on_spec, best_spec, minit_spec, mkey_spec, filled_spec, List.length_map, seqB_eq, then_nx, then_rt, then_bk, then_ct, then_ex, then_bad, bind_ok, bind_ex, bind_bad, toF_ok, toF_ex, toF_bad, ofO_some, ofO_none, nx_ok, cD_eq, vD_0, vD_s, vB_0, vB_o, vB_s, bopD_eq, uopD_eq, tstD_eq, asB_bl, asI_int, deref_int, deref_bl, deref_str, deref_non, deref_tup, deref_lst, deref_dic, deref_obj, deref_scr, deref_han, chD_eq, ch3D_eq, andT_eq, orT_eq, notT_eq, ifD_eq, andD_eq, orD_eq, notD_eq, nilA_eq, consA_eq, tupD_eq, lstD_eq, fldD_eq, bltD_eq, partN_eq, partS_eq, sliceD_eq, callD_eq, gateD_eq, methD_eq, isC_obj, calmD_eq, calmN_eq, calmK_obj, hanD_eq, notObj_l, notObj_t, notObj_d, setB_eq, setOB_eq, setF_eq, setOF_eq, ifB_eq, retB_eq, retN_eq, dropB_eq, nextB_eq, breakB_eq, contB_eq, raiseA_eq, augB_eq, frzB_eq, frzL_nil, frzL_cons, frzE_zl, frzE_zd, frzE_zv, frzE_zn, frzE_s, asgB_eq, asg2B_eq, parB_eq, putAll_nil, putAll_cons, asgFB_eq, nilF_eq, consV_eq, consO_eq, gN_eq, gsN_eq, gsC_eq, gT_eq, fnD_eq, fnK_nx, fnK_rt, fnK_ex, fnK_bad, inD_eq, inK_nx, inK_ex, toldD_eq,  ite_yes, ite_no, dec_yes, dec_no, plV_eq, plK_o, plK_h, plE_eq, plEK_h, wrF_slot, wrF_han, wrS_o, wrH_s, wrSU_s, wrHU_s, fldB_eq, fldU_eq, stB_eq, stAK_s, stAugB_eq, fldAugB_eq, plcD_slot, plcD_han, plS_o, mtB_eq, mthD_eq, isLst_l, appU_l, setL_l, getL_l, ixN_ok, atI_0, atI_1, atI_2, atI_3, atI_4, atI_5, atI_6, atI_7, atI_8, atI_9, atI_10, atI_11, atI_12, atI_13, atI_14, atI_15, forB_eq, rngD_eq, iterD_eq, rng1_int, rng2_int, scrO_l, scrO_s, lstO_l, tupO_l, putK_some, goK_nx, goK_ct, goK_bk, goK_rt, goK_ex, lcD_eq, wipeE_nil, wipeE_cons, yesT_eq, lcPut_some, wipB_eq, forW_eq, preB_eq, wip_nx, wip_bk, wip_ct, wip_rt, wip_ex, wip_bad, keep_t, keep_f, keep_n, asgO_s, asgK_eq, asgFK_eq, putS_nil, putS_v, putS_o, and_self, ite_self, wrS_o, wrSU_s, true_and, and_true, false_and, and_false, decide_true, decide_false, Int.reduceLT, Int.reduceLE, Int.reduceEq, Int.reduceAdd, Int.reduceSub, Int.reduceMul, Int.reduceNeg, Int.reduceDiv, Int.reduceMod, Int.reduceNe, turnF_eq,
  cut_to, cut_from, cut_both, opCut_l, opCut_t, opCut_s, opPow_int, opAdd_tup, opAdd_lst, opEq_ts, opEq_ls, opEq_st, opEq_sl, opNe_ts, opNe_ls, opNe_st, opNe_sl, opEq_ss, opNe_ss, opEq_nn, opNe_self, opEq_self, opNe_nn, opNe_lnil, opEq_lnil, opNe_is, opEq_is, opNe_si, opEq_si, opNe_bb, opEq_bb, opAdd_int, opAug_int, opSub_int, opMul_r, opMul_l, opMulI_r, opMulI_l, opDiv_int, opMod_int, opLt_int, opLe_int, opGt_int, opGe_int, opEq_int, opNe_int, min2_int, max2_int, min3_int, min4_int, opNeg_int, listO_l, listO_t, tupleO_l, tupleO_t, zipO_ll, zipO_tt, enumO_l, lenO_l, lenO_t, opIn_lst, opIn_tup, opNin_lst, opNin_tup, eqB_ss, eqB_ii, List.any_cons, List.any_nil, gSumD_eq, gAnyD_eq, anyF_nil, anyPut_some, absO_int, intO_int, intO_bl, fldO_eq, opIx_t, opIx_l,
  Bool.true_and, Bool.and_true, Bool.false_and, Bool.and_false, List.map_cons, List.map_nil, List.length_cons, List.length_nil, List.set_cons_zero, List.set_cons_succ, List.getElem?_cons_zero, List.getElem?_cons_succ, Option.map_some, Option.bind_some, decide_eq_true_eq, Bool.not_eq_true', decide_eq_false_iff_not, Bool.not_true, Bool.false_eq_true, reduceCtorEq, Bool.not_false, ite_true, ite_false, if_true, if_false, Nat.reduceAdd, Nat.reduceLeDiff, Nat.reduceLT, Nat.reduceSub, beq_self_eq_true, Nat.reduceEqDiff, reduceIte, Int.reduceToNat, Int.reducePow, List.take_zero, List.take_nil, List.drop_nil, List.drop_zero, List.take_succ_cons, List.drop_succ_cons, forF_nil, padE, List.length_append, List.replicate, List.append_nil, List.cons_append, List.nil_append])
theorem law_body (x : Dc) : ∃ s', turnF (gN 1) L_law_0 (.han 0) E_law_0 [x.d] = .nx E_law_0 s' := by
  unfold turnF L_law_0
  simp only [gN_eq, List.length_cons, List.length_nil, Nat.reduceAdd, Nat.reduceLT, if_true, putK_some, wipB_eq]
  show Nxt _ _ _
  try rw [seqB_eq]
  have b1 := x.roll_bd (m := 300) (by omega)
  refine Nxt.step (by unfold S_law_0x_0; walk_at "dl"; rfl) ?_
  generalize x.roll 300 = ne at *
  generalize x.next 300 = x1 at *
  have b2 := x1.roll_bd (m := 800) (by omega)
  have b3 := (x1.next 800).roll_bd (m := 200) (by omega)
  have b4 := ((x1.next 800).next 200).roll_bd (m := 300) (by omega)
  have b5 := (((x1.next 800).next 200).next 300).roll_bd (m := 16) (by omega)
  try rw [seqB_eq]
  refine Nxt.step (by unfold S_law_0x_1; walk_at "dl"; rfl) ?_
  generalize x1.roll 800 = f at *
  generalize x1.next 800 = x2 at *
  generalize x2.roll 200 = b0 at *
  generalize x2.next 200 = x3 at *
  generalize x3.roll 300 = s0 at *
  generalize x3.next 300 = x4 at *
  generalize x4.roll 16 = d0 at *
  generalize x4.next 16 = x5 at *
  generalize hb : 600 + b0 = b at *
  generalize hs : ne + s0 = sp at *
  generalize hd : 2 + d0 = d at *
  have H : Td f b sp ne d := by omega
  clear hb hs hd b1 b2 b3 b4 b5
  have b6 := x5.roll_bd (m := 30) (by omega)
  try rw [seqB_eq]
  refine Nxt.step (by unfold S_law_0x_2; walk_at "dl"; rfl) ?_
  generalize x5.roll 30 = n at *
  generalize x5.next 30 = x6 at *
  try rw [seqB_eq]
  refine Nxt.skip (by unfold S_law_0x_3 S_law_0x_3a_0; walk_at "dl") ?_
  try rw [seqB_eq]
  refine Nxt.skip (by
    have ok := okN_imap (fun i : Nat => hI f b sp ne d (0 + (i : Int))) (List.range 12)
    unfold S_law_0x_4 S_law_0x_4a_0
    walk_at "dl"
    rw [rngL_map, lcF_all (fun i : Nat => D.int (0 + (i : Int))) (fun i : Nat => D.int (hI f b sp ne d (0 + (i : Int)))) (List.range 12) (fun i hi => ⟨_, rfl, by walk_at "dl", by walk_at "dl"⟩)]
    walk_at "dl"
    rw [lcF_all (fun i : Nat => D.int (0 + (i : Int))) (fun i : Nat => D.int (hI f b sp ne d (0 + (i : Int)))) (List.range 12) (fun i hi => ⟨_, rfl, by walk_at "dl", by walk_at "dl"⟩)]
    walk_at "dl") ?_
  have b7 := x6.roll_bd (m := 9000) (by omega)
  try rw [seqB_eq]
  refine Nxt.step (by unfold S_law_0x_5; walk_at "dl"; rfl) ?_
  generalize x6.roll 9000 = m at *
  generalize x6.next 9000 = x7 at *
  obtain ⟨ft, hft⟩ := first_is f b m (by omega) (by omega) (by omega)
  try rw [seqB_eq]
  refine Nxt.step (by
    unfold S_law_0x_6
    walk_at "dl"
    rw [rngL_map, lcF_pure (fun i : Nat => D.int (0 + (i : Int))) (fun k : Nat => decide (m ≤ f + (0 + (k : Int)) * b)) (fun i : Nat => D.int (0 + (i : Int))) (List.range 40) (fun i hi => ⟨_, rfl, by walk_at "dl", fun _ => by walk_at "dl"⟩), hft]
    walk_at "dl"
    rfl) ?_
  try rw [seqB_eq]
  refine Nxt.skip (by unfold S_law_0x_7 S_law_0x_7a_0; walk_at "dl") ?_
  try rw [seqB_eq]
  refine Nxt.step (by unfold S_law_0x_8; walk_at "dl"; rfl) ?_
  have o1 : 0 ≤ n * b := Int.mul_nonneg (by omega) (by omega)
  have o2 : n * b ≤ 29 * b := Int.mul_le_mul_of_nonneg_right (by omega) (by omega)
  try rw [seqB_eq]
  refine Nxt.skip (by unfold S_law_0x_9 S_law_0x_9a_0; walk_at "dlv") ?_
  have b8 := x7.roll_bd (m := 9) (by omega)
  try rw [seqB_eq]
  refine Nxt.step (by unfold S_law_0x_10; walk_at "dl"; rfl) ?_
  generalize x7.roll 9 = day at *
  generalize x7.next 9 = x8 at *
  try rw [seqB_eq]
  refine Nxt.step (by
    unfold S_law_0x_11
    walk_at "dl"
    rw [rngL_map, lcF_all (fun i : Nat => D.int (0 + (i : Int))) (fun k : Nat => D.int (gI f b day k)) (List.range 40) (fun i hi => ⟨_, rfl, by walk_at "dl", by unfold gI; walk_at "dl"⟩)]
    walk_at "dl"
    rfl) ?_
  try rw [seqB_eq]
  refine Nxt.skip (by
    have ok := okN_imap (fun k : Nat => gI f b day k) (onL f b day)
    unfold S_law_0x_12 S_law_0x_12a_0
    walk_at "dlo"
    rw [lcF_pure (fun k : Nat => D.int (gI f b day k)) (fun k => decide (0 ≤ gI f b day k) && decide (gI f b day k < 1440)) (fun k : Nat => D.int (gI f b day k)) (List.range 40) (fun i hi => ⟨_, rfl, by
      by_cases c1 : 0 ≤ gI f b day i
      · by_cases c2 : gI f b day i < 1440
        · rw [decide_eq_true c1, decide_eq_true c2]
          walk_at "dl"
        · rw [decide_eq_true c1, decide_eq_false c2]
          walk_at "dl"
      · rw [decide_eq_false c1]
        walk_at "dl", fun _ => by walk_at "dl"⟩)]
    unfold onL at ok ⊢
    walk_at "dlo") ?_
  have b9 := x8.roll_bd (m := 8) (by omega)
  have b10 := (x8.next 8).roll_bd (m := 900) (by omega)
  try rw [seqB_eq]
  refine Nxt.step (by unfold S_law_0x_13; walk_at "dl"; rfl) ?_
  generalize x8.roll 8 = days0 at *
  generalize x8.next 8 = x9 at *
  generalize x9.roll 900 = light at *
  generalize x9.next 900 = x10 at *
  have b11 := x10.roll_bd (m := 500) (by omega)
  try rw [seqB_eq]
  refine Nxt.step (by unfold S_law_0x_14; walk_at "dl"; rfl) ?_
  generalize x10.roll 500 = dk at *
  generalize x10.next 500 = x11 at *
  generalize hdays : 1 + days0 = days at *
  generalize hdark : light + 1 + dk = dark at *
  have hd : 1 ≤ days ∧ days ≤ 8 := by omega
  have hl : 0 ≤ light ∧ light < dark ∧ dark ≤ 1440 := by omega
  try rw [seqB_eq]
  refine Nxt.step (by unfold S_law_0x_15; walk_at "dl"; rfl) ?_
  try rw [seqB_eq]
  refine Nxt.step (by
    unfold S_law_0x_16
    walk_at "dl"
    rw [cnt_loop _ f b light dark days (by omega) hd _ _ .non]
    walk_at "dl"
    rfl) ?_
  obtain ⟨mx, hmx⟩ := cnt_max f b light dark days (by omega)
  try rw [seqB_eq]
  refine Nxt.skip (by
    have ok : okN 9 (.lst (bestL f b light dark days mx)) = true := okN_imap (fun i : Nat => (0 + (i : Int))) ((List.range days.toNat).filter fun i : Nat => decide (cntI f b light dark (0 + (i : Int)) = mx))
    have hbs := best_spec [x11.d] f b sp ne d days light dark mx H hd hl hmx
    unfold S_law_0x_17 S_law_0x_17a_0
    walk_at "dl"
    rw [hbs]
    walk_at "dl"
    rw [rngL_map, lcF_pure (fun i : Nat => D.int (0 + (i : Int))) (fun i : Nat => decide (cntI f b light dark (0 + (i : Int)) = mx)) (fun i : Nat => D.int (0 + (i : Int))) (List.range days.toNat) (fun i hi => ⟨_, rfl, by
      have hi := List.mem_range.mp hi
      have hx : atI (cntL f b light dark days) (0 + (i : Int)) = some (.int (cntI f b light dark (0 + (i : Int)))) := by
        unfold cntL
        rw [atI_rmap _ (by omega), show (0 + (i : Int)).toNat = i by omega]
      walk_at "dl"
      rw [hx]
      walk_at "dl"
      rw [hmx]
      walk_at "dl", fun _ => by walk_at "dl"⟩)]
    unfold bestL at ok ⊢
    walk_at "dl") ?_
  have c1 := x11.roll_bd (m := 200) (by omega)
  have c2 := (x11.next 200).roll_bd (m := 20) (by omega)
  have c3 := ((x11.next 200).next 20).roll_bd (m := 900) (by omega)
  have c4 := (((x11.next 200).next 20).next 900).roll_bd (m := 120) (by omega)
  try rw [seqB_eq]
  refine Nxt.step (by unfold S_law_0x_18; walk_at "dl"; rfl) ?_
  generalize x11.roll 200 = a at *
  generalize x11.next 200 = x12 at *
  generalize x12.roll 20 = w0 at *
  generalize x12.next 20 = x13 at *
  generalize x13.roll 900 = t0 at *
  generalize x13.next 900 = x14 at *
  generalize x14.roll 120 = g at *
  generalize x14.next 120 = x15 at *
  generalize hw : 1 + w0 = w at *
  generalize ht : 1 + t0 = t at *
  have M : Ml a w t g := by omega
  try rw [seqB_eq]
  refine Nxt.step (by unfold S_law_0x_19; walk_at "dl"; rfl) ?_
  have c5 := x15.roll_bd (m := 600) (by omega)
  try rw [seqB_eq]
  refine Nxt.step (by unfold S_law_0x_20; walk_at "dl"; rfl) ?_
  generalize x15.roll 600 = h at *
  generalize x15.next 600 = x16 at *
  try rw [seqB_eq]
  refine Nxt.skip (by unfold S_law_0x_21 S_law_0x_21a_0; walk_at "dl") ?_
  try rw [seqB_eq]
  refine Nxt.step (by unfold S_law_0x_22; walk_at "dl"; rfl) ?_
  obtain ⟨s', hr⟩ := rest1_ok x16 f b sp ne d a w t g h H M (by omega)
  unfold S_law_0x_23 S_law_0x_23a_0
  walk_at "dl"
  rw [hr]
  walk_at "dl"
  exact Nxt.end_ rfl
theorem law_holds : ∀ ns : List Int, ns.length ≤ 63 → ∃ s, m_law [.scr ns] [] = .ok (.bl true) s := law_of law_body
end L13
theorem PySem.Challenge.cw_millhall_k13_tides_holds : PySem.Challenge.rw_millhall_k13_tides.Holds :=
  L13.holds_of L13.law_holds
