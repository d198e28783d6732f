import PyProof.Rows.All
import Wide.All
import OpenK.AllK
import Wide.FinOn
import HandS.Lambda
import HandS.HeadHook4
import HandS.Base
import HandS.Call
import HandS.List
import HandS.Comp
import HandS.Ends
import HandS.Exc
import HandS.ExcOwn
import HandS.TryOnly
import HandS.Words
import HandS.WordsList
import HandS.WordsExc
import HandS.Defaults
import HandS.HeadHook1
import HandS.Iter
import HandS.Zip
import HandS.Style
import HandS.TupAny
import HandS.IsInst
import HandS.Deep
import HandS.Strs
import HandS.Small
import KE.GoesMore
import KE.DatumOrd
import HandS.ExcIs
import KE.SortKeyHeap
import KE.KSortKey
import HandS.SetKeys
import HandS.Conv
import HandS.TupLen
import HandS.TupSets
import HandS.WordsDict
import HandS.DictTup
import PyProof.DictMoreH
import KE.KDictSum
import KE.KStateDown
import Lean
import HandS.More
import HandS.Head0
import HandS.Head1
import HandS.Head2
import HandS.HeadEnd
import HandS.HeadHook2
import HandS.HeadHook3
import PySem.Challenge.RW_waitlifts_k87_whole_where_cabs_are
import HandS.HeadWalk
import HandS.EndTab
set_option Elab.async false
set_option linter.all false
namespace Dn
open PySem PySem.Spec PyProof.Rows L2
/-- the defs of this law that make lambdas -/
def lamDefs : List He.Defn := [("cab_spans", none), ("_law_case_right", none)]
/-- their tables of code objects, the lambdas' names -/
def lamT (K : PySem.W.Frag) : List (Addr × Str) := lamDefs.map fun p => ((He.cT K p).2, (p.1 ++ ".<locals>.") ++ "<lambda>")
/-- no code table (those grow where a lambda is made) -/
def Nt (o : HO) : Prop := ∀ ps, o ≠ .tbl ps
theorem nt_lst {vs : List V} : Nt (.lst vs) := fun _ h => (nomatch h)
theorem nt_tup {vs : List V} : Nt (.tup vs) := fun _ h => (nomatch h)
theorem nt_frz {o : Obj} {u : HO} : Nt (.frz o u) := fun _ h => (nomatch h)
theorem nt_ins {c d : Addr} {fs : List (Str × V)} : Nt (.ins c d fs) := fun _ h => (nomatch h)
theorem nt_dT {k : List (List Key × V)} : Nt (.dT k) := fun _ h => (nomatch h)
theorem nt_dK {k : List (Key × V)} : Nt (.dK k) := fun _ h => (nomatch h)
theorem nt_xd {k : List (Str × V)} : Nt (.xd k) := fun _ h => (nomatch h)
theorem nt_own {x : Addr} : Nt (.own x) := fun _ h => (nomatch h)
/-- all that was tracked is as it was; there are no new tables -/
structure Same (H H' : Hp) : Prop where
  k : ∀ b o, H b = some o → H' b = some o
  t : ∀ b ps, H' b = some (.tbl ps) → H b = some (.tbl ps)
instance {H H' : Hp} : CoeFun (Same H H') (fun _ => ∀ b o, H b = some o → H' b = some o) := ⟨Same.k⟩
theorem Same.refl (H : Hp) : Same H H := ⟨fun _ _ h => h, fun _ _ h => h⟩
theorem Same.trans {H H1 H2 : Hp} (a : Same H H1) (b : Same H1 H2) : Same H H2 := ⟨fun c o h => b.k c o (a.k c o h), fun c p h => a.t c p (b.t c p h)⟩
theorem same_upd {H : Hp} {p : Addr} {o : HO} (h : H p = none) (n : Nt o := by first | exact nt_lst | exact nt_tup | exact nt_ins | exact nt_own | exact nt_dT | exact nt_dK) : Same H (upd H p o) := ⟨fun b o' e => by
  rw [upd_ne (ne_of_none e h)]
  exact e, fun b ps e => by
  by_cases q : b = p
  · subst q
    rw [upd_same] at e
    exact absurd (Option.some.inj e) (n ps)
  · rw [upd_ne q] at e
    exact e⟩
/-- a tuple, a thing that is locked: never changed -/
def Tp (o : HO) : Prop := (∃ vs, o = .tup vs) ∨ ∃ q u, o = .frz q u
theorem Tp.nt {o : HO} (t : Tp o) : Nt o := by
  rcases t with ⟨vs, e⟩ | ⟨q, u, e⟩
  · rw [e]; exact nt_tup
  · rw [e]; exact nt_frz
theorem tp_tup {vs : List V} : Tp (.tup vs) := .inl ⟨vs, rfl⟩
theorem tp_frz {q : Obj} {u : HO} : Tp (.frz q u) := .inr ⟨q, u, rfl⟩
/-- a thing that is changed is no table and none of their code objects, no tuple -/
def Nx (o : HO) : Prop := (∀ ps, o ≠ .tbl ps) ∧ (∀ φ, o ≠ .ext φ) ∧ ¬ Tp o
theorem nx_lst {vs : List V} : Nx (.lst vs) := ⟨fun _ h => (nomatch h), fun _ h => (nomatch h), fun h => h.elim (fun ⟨_, e⟩ => (nomatch e)) fun ⟨_, _, e⟩ => (nomatch e)⟩
theorem nx_dT {k : List (List Key × V)} : Nx (.dT k) := ⟨fun _ h => (nomatch h), fun _ h => (nomatch h), fun h => h.elim (fun ⟨_, e⟩ => (nomatch e)) fun ⟨_, _, e⟩ => (nomatch e)⟩
theorem nx_dK {k : List (Key × V)} : Nx (.dK k) := ⟨fun _ h => (nomatch h), fun _ h => (nomatch h), fun h => h.elim (fun ⟨_, e⟩ => (nomatch e)) fun ⟨_, _, e⟩ => (nomatch e)⟩
theorem nx_ins {c d : Addr} {k : List (Str × V)} : Nx (.ins c d k) := ⟨fun _ h => (nomatch h), fun _ h => (nomatch h), fun h => h.elim (fun ⟨_, e⟩ => (nomatch e)) fun ⟨_, _, e⟩ => (nomatch e)⟩
theorem upd_tp {H : Hp} {p b : Addr} {o0 o o' : HO} (hp : H p = some o0) (n : ¬ Tp o0) (t : Tp o) (h : H b = some o) : upd H p o' b = some o := by
  rw [upd_ne]
  · exact h
  · intro e
    rw [e, hp] at h
    cases h
    exact n t
/-- the tables: each tells code objects of its one name -/
structure TabsOk (K : PySem.W.Frag) (H : Hp) : Prop where
  a : LamX.Tabs (lamT K) H
section
variable {K : PySem.W.Frag} {H H' : Hp} {p : Addr} {o0 o : HO}
theorem TabsOk.same (t : TabsOk K H) (s : Same H H') : TabsOk K H' := ⟨t.a.ext s.k⟩
theorem TabsOk.upd (t : TabsOk K H) (h : H p = some o0) (n : Nx o0) (n' : Nt o) : TabsOk K (upd H p o) := by
  refine ⟨fun q hq => ?_⟩
  obtain ⟨ps, h1, h2, h3⟩ := t.a q hq
  refine ⟨ps, ?_, h2, fun pos cv hc => ?_⟩
  · rw [upd_ne]
    · exact h1
    · intro e
      rw [e, h] at h1
      exact n.1 ps (Option.some.inj h1)
  · obtain ⟨c, e1, e2⟩ := h3 pos cv hc
    refine ⟨c, e1, ?_⟩
    rw [upd_ne]
    · exact e2
    · intro e
      rw [e, h] at e2
      exact n.2.1 _ (Option.some.inj e2)
theorem TabsOk.new (t : TabsOk K H) (h : H p = none) (n : Nt o) : TabsOk K (L2.upd H p o) := t.same (same_upd h n)
end
end Dn

set_option Elab.async false
set_option linter.all false
set_option maxRecDepth 100000
set_option maxHeartbeats 4000000
/-! A layer of plain data over the hand layer: D (data), how data stand in the abstract heap, judgements whose readings speak of data alone. -/
namespace Dn
open PySem PySem.Spec PyProof.Rows L2
/-- plain data -/
inductive D where
  | non | bl (b : Bool) | int (i : Int) | str (x : Str) | tup (ds : List D) | lst (ds : List D) | obj (c : Str) (ns : List Str) (ds : List D)
  /-- the script: a list of ints that is locked -/
  | scr (ns : List Int)
  /-- a thing at a place, nothing said of it -/
  | at (a : Addr)
  /-- dicts that are changed no more: of tuples as keys, of ints and texts -/
  | dct (ks : List (List Key)) (ds : List D)
  | dck (ks : List Key) (ds : List D)
abbrev Fr := PySem.W.Frag
abbrev Sg := L2.St
abbrev Ad := Addr → Prop
def KLst (K : Fr) (a : Addr) (xs : List V) : Prop := ∃ (o : Obj) (its : Array Value) (n : Nat), K.lookup a = some o ∧ o.cls = .type "list" ∧ o.dict = none ∧ o.data = .seq its n ∧ its.size ≤ sizeLine ∧ Vals xs its.toList
def KTup (K : Fr) (a : Addr) (xs : List V) : Prop := ∃ (o : Obj) (its : Array Value) (n : Nat), K.lookup a = some o ∧ o.cls = .type "tuple" ∧ o.data = .seq its n ∧ its.size ≤ sizeLine ∧ Vals xs its.toList
/-- a list, a tuple, that is not of M -/
def LstAt (K : Fr) (M : Ad) (H : Hp) (a : Addr) (vs : List V) : Prop := ¬ M a ∧ H a = some (.lst vs)
def ScrAt (K : Fr) (M : Ad) (H : Hp) (a : Addr) (vs : List V) : Prop := (¬ M a ∧ Rd H a (.lst vs)) ∨ KLst K a vs
def TupAt (K : Fr) (M : Ad) (H : Hp) (a : Addr) (vs : List V) : Prop := Rd H a (.tup vs) ∨ KTup K a vs
theorem LstAt.sq {K : Fr} {M : Ad} {H : Hp} {a : Addr} {vs : List V} (h : LstAt K M H a vs) : SqL K H a vs := .of h.2
theorem ScrAt.sq {K : Fr} {M : Ad} {H : Hp} {a : Addr} {vs : List V} (h : ScrAt K M H a vs) : SqL K H a vs := h.elim (fun z => .inl z.2) .inr
theorem TupAt.sq {K : Fr} {M : Ad} {H : Hp} {a : Addr} {vs : List V} (h : TupAt K M H a vs) : SqT K H a vs := h.elim .inl .inr
mutual
/-- the value v stands for the data d; M: the addresses of what may still be changed (d leans on none of them) -/
def Rep (K : Fr) (M : Ad) (H : Hp) : D → V → Prop
  | .non, v => v = .non
  | .bl b, v => v = .bl b
  | .int i, v => v = .int i
  | .str x, v => v = .str x
  | .tup ds, v => ∃ a vs, v = .ref a ∧ TupAt K M H a vs ∧ Reps K M H ds vs
  | .lst ds, v => ∃ a vs, v = .ref a ∧ LstAt K M H a vs ∧ Reps K M H ds vs
  | .obj c ns ds, v => ∃ a dx fs, v = .ref a ∧ ¬ M a ∧ H a = some (.ins (He.ga K c) dx fs) ∧ fs.map (·.1) = ns ∧ Reps K M H ds (fs.map (·.2))
  | .scr ns, v => ∃ a, v = .ref a ∧ ScrAt K M H a (ns.map V.int)
  | .at a, v => v = .ref a
  | .dct ks ds, v => ∃ a vs, v = .ref a ∧ ¬ M a ∧ H a = some (.dT (ks.zip vs)) ∧ ks.length = vs.length ∧ Reps K M H ds vs
  | .dck ks ds, v => ∃ a vs, v = .ref a ∧ ¬ M a ∧ H a = some (.dK (ks.zip vs)) ∧ ks.length = vs.length ∧ Reps K M H ds vs
def Reps (K : Fr) (M : Ad) (H : Hp) : List D → List V → Prop
  | [], vs => vs = []
  | d :: ds, vs => ∃ v r, vs = v :: r ∧ Rep K M H d v ∧ Reps K M H ds r
end
/-- what may be kept of values when (M, H) becomes (M', H') -/
structure Grow (M : Ad) (H : Hp) (M' : Ad) (H' : Hp) : Prop where
  m : ∀ b, M' b → M b ∨ H b = none
  k : ∀ b o, ¬ M b → H b = some o → Nt o → H' b = some o
  n : ∀ b, H b ≠ none → H' b ≠ none
  t : ∀ b o, Tp o → H b = some o → H' b = some o
theorem Grow.refl (M : Ad) (H : Hp) : Grow M H M H := ⟨fun _ h => .inl h, fun _ _ _ h _ => h, fun _ h => h, fun _ _ _ h => h⟩
theorem Grow.at_ {M M' : Ad} {H H' : Hp} (g : Grow M H M' H') {b : Addr} (h : H' b = none) : H b = none := by
  cases e : H b with
  | none => rfl
  | some o => exact absurd h (g.n b (by rw [e]; exact fun z => nomatch z))
theorem some_ne {H : Hp} {b : Addr} {o : HO} (h : H b = some o) : H b ≠ none := by
  rw [h]
  exact fun z => nomatch z
theorem upd_dom {H : Hp} {a b : Addr} {o : HO} (h : H b ≠ none) : upd H a o b ≠ none := by
  by_cases e : b = a
  · subst e
    rw [upd_same]
    exact fun z => nomatch z
  · rw [upd_ne e]
    exact h
theorem Grow.trans {M M1 M2 : Ad} {H H1 H2 : Hp} (a : Grow M H M1 H1) (b : Grow M1 H1 M2 H2) : Grow M H M2 H2 := by
  refine ⟨fun c h => ?_, fun c o n h t => ?_, fun c h => b.n c (a.n c h), fun c o t h => b.t c o t (a.t c o t h)⟩
  · rcases b.m c h with h1 | h1
    · exact a.m c h1
    · exact .inr (a.at_ h1)
  · have n1 : ¬ M1 c := fun m => (a.m c m).elim n fun z => by rw [h] at z; cases z
    exact b.k c o n1 (a.k c o n h t) t
theorem Grow.of_same {M : Ad} {H H' : Hp} (s : Same H H') : Grow M H M H' := ⟨fun _ h => .inl h, fun b o _ h _ => s.k b o h, fun b h z => (by
  cases e : H b with
  | none => exact h e
  | some o => rw [s.k b o e] at z; cases z), fun b o _ h => s.k b o h⟩
section
variable {K : Fr} {M M' : Ad} {H H' : Hp}
theorem Grow.not {a : Addr} {o : HO} (g : Grow M H M' H') (n : ¬ M a) (h : H a = some o) : ¬ M' a := fun m => (g.m a m).elim n fun z => by rw [h] at z; cases z
theorem Grow.rd {a : Addr} {u : HO} (g : Grow M H M' H') (t : Nt u) (n : ¬ M a) (h : Rd H a u) : ¬ M' a ∧ Rd H' a u := by
  rcases h with h | ⟨o, h⟩
  · exact ⟨g.not n h, .inl (g.k _ _ n h t)⟩
  · exact ⟨g.not n h, .inr ⟨o, g.k _ _ n h nt_frz⟩⟩
theorem LstAt.grow {a : Addr} {vs : List V} (h : LstAt K M H a vs) (g : Grow M H M' H') : LstAt K M' H' a vs := ⟨g.not h.1 h.2, g.k _ _ h.1 h.2 nt_lst⟩
theorem ScrAt.grow {a : Addr} {vs : List V} (h : ScrAt K M H a vs) (g : Grow M H M' H') : ScrAt K M' H' a vs := h.elim (fun z => .inl (g.rd nt_lst z.1 z.2)) .inr
theorem TupAt.grow {a : Addr} {vs : List V} (h : TupAt K M H a vs) (g : Grow M H M' H') : TupAt K M' H' a vs := h.elim (fun z => .inl (z.elim (fun e => .inl (g.t _ _ tp_tup e)) fun ⟨o, e⟩ => .inr ⟨o, g.t _ _ tp_frz e⟩)) .inr
mutual
theorem Rep.grow (g : Grow M H M' H') : ∀ {d : D} {v : V}, Rep K M H d v → Rep K M' H' d v
  | .non, v, h => h
  | .bl b, v, h => h
  | .int i, v, h => h
  | .str x, v, h => h
  | .tup ds, v, h => by
    obtain ⟨a, vs, e, t, r⟩ := h
    exact ⟨a, vs, e, t.grow g, Reps.grow g r⟩
  | .lst ds, v, h => by
    obtain ⟨a, vs, e, t, r⟩ := h
    exact ⟨a, vs, e, t.grow g, Reps.grow g r⟩
  | .obj c ns ds, v, h => by
    obtain ⟨a, dx, fs, e, n, ha, hn, r⟩ := h
    exact ⟨a, dx, fs, e, g.not n ha, g.k _ _ n ha nt_ins, hn, Reps.grow g r⟩
  | .scr ns, v, h => by
    obtain ⟨a, e, t⟩ := h
    exact ⟨a, e, t.grow g⟩
  | .at a, v, h => h
  | .dct ks ds, v, h => by
    obtain ⟨a, vs, e, n, ha, hn, r⟩ := h
    exact ⟨a, vs, e, g.not n ha, g.k _ _ n ha nt_dT, hn, Reps.grow g r⟩
  | .dck ks ds, v, h => by
    obtain ⟨a, vs, e, n, ha, hn, r⟩ := h
    exact ⟨a, vs, e, g.not n ha, g.k _ _ n ha nt_dK, hn, Reps.grow g r⟩
theorem Reps.grow (g : Grow M H M' H') : ∀ {ds : List D} {vs : List V}, Reps K M H ds vs → Reps K M' H' ds vs
  | [], vs, h => h
  | d :: ds, vs, h => by
    obtain ⟨v, r, e, h1, h2⟩ := h
    exact ⟨v, r, e, Rep.grow g h1, Reps.grow g h2⟩
end
theorem Rep.less {d : D} {v : V} (h : Rep K M H d v) (l : ∀ a, M' a → M a) : Rep K M' H d v := h.grow ⟨fun b m => .inl (l b m), fun _ _ _ z _ => z, fun _ z => z, fun _ _ _ z => z⟩
theorem Reps.less {d : List D} {v : List V} (h : Reps K M H d v) (l : ∀ a, M' a → M a) : Reps K M' H d v := h.grow ⟨fun b m => .inl (l b m), fun _ _ _ z _ => z, fun _ z => z, fun _ _ _ z => z⟩
theorem Reps.length : ∀ {ds : List D} {vs : List V}, Reps K M H ds vs → ds.length = vs.length
  | [], vs, h => by
    have e : vs = [] := h
    rw [e]; rfl
  | d :: ds, vs, h => by
    obtain ⟨v, r, e, h1, h2⟩ := h
    rw [e, List.length_cons, List.length_cons, Reps.length h2]
theorem Reps.get : ∀ {ds : List D} {vs : List V} {i : Nat} {d : D}, Reps K M H ds vs → ds[i]? = some d → ∃ v, vs[i]? = some v ∧ Rep K M H d v
  | [], vs, i, d, h, e => by simp at e
  | d0 :: ds, vs, 0, d, h, e => by
    obtain ⟨v, r, e1, h1, h2⟩ := h
    simp at e
    subst e e1
    exact ⟨v, rfl, h1⟩
  | d0 :: ds, vs, i + 1, d, h, e => by
    obtain ⟨v, r, e1, h1, h2⟩ := h
    subst e1
    obtain ⟨u, hu, ru⟩ := Reps.get (i := i) (d := d) h2 (by simpa using e)
    exact ⟨u, by simpa using hu, ru⟩
theorem Reps.get' : ∀ {ds : List D} {vs : List V} {i : Nat} {v : V}, Reps K M H ds vs → vs[i]? = some v → ∃ d, ds[i]? = some d ∧ Rep K M H d v := fun {ds vs i v} h e => by
  have hl := h.length
  have hi : i < ds.length := by rw [hl]; exact (List.getElem?_eq_some_iff.mp e).1
  obtain ⟨u, hu, ru⟩ := h.get (List.getElem?_eq_getElem hi)
  rw [e] at hu
  cases hu
  exact ⟨_, List.getElem?_eq_getElem hi, ru⟩
theorem Reps.of_get : ∀ {ds : List D} {vs : List V}, ds.length = vs.length → (∀ (i : Nat) (d : D) (v : V), ds[i]? = some d → vs[i]? = some v → Rep K M H d v) → Reps K M H ds vs
  | [], [], _, _ => rfl
  | [], _ :: _, h, _ => by cases h
  | _ :: _, [], h, _ => by cases h
  | d :: ds, v :: vs, h, f => ⟨v, vs, rfl, f 0 d v rfl rfl, Reps.of_get (by simpa using h) fun i d' v' h1 h2 => f (i + 1) d' v' (by simpa using h1) (by simpa using h2)⟩
theorem Reps.append : ∀ {ds es : List D} {vs ws : List V}, Reps K M H ds vs → Reps K M H es ws → Reps K M H (ds ++ es) (vs ++ ws)
  | [], es, vs, ws, h, h' => by
    have e : vs = [] := h
    subst e
    exact h'
  | d :: ds, es, vs, ws, h, h' => by
    obtain ⟨v, r, e, h1, h2⟩ := h
    subst e
    exact ⟨v, r ++ ws, rfl, h1, Reps.append h2 h'⟩
theorem Reps.take {n : Nat} {ds : List D} {vs : List V} (h : Reps K M H ds vs) : Reps K M H (ds.take n) (vs.take n) := by
  refine Reps.of_get (by rw [List.length_take, List.length_take, h.length]) fun i d v h1 h2 => ?_
  rw [List.getElem?_take] at h1 h2
  split at h1
  · rename_i hi
    rw [if_pos hi] at h2
    obtain ⟨u, hu, ru⟩ := h.get h1
    rw [h2] at hu
    cases hu
    exact ru
  · cases h1
theorem Reps.drop {n : Nat} {ds : List D} {vs : List V} (h : Reps K M H ds vs) : Reps K M H (ds.drop n) (vs.drop n) := by
  refine Reps.of_get (by rw [List.length_drop, List.length_drop, h.length]) fun i d v h1 h2 => ?_
  rw [List.getElem?_drop] at h1 h2
  obtain ⟨u, hu, ru⟩ := h.get h1
  rw [h2] at hu
  cases hu
  exact ru
theorem Reps.set {i : Nat} {d : D} {v : V} {ds : List D} {vs : List V} (h : Reps K M H ds vs) (r : Rep K M H d v) : Reps K M H (ds.set i d) (vs.set i v) := by
  refine Reps.of_get (by rw [List.length_set, List.length_set, h.length]) fun j d' v' h1 h2 => ?_
  by_cases e : i = j
  · subst e
    rw [List.getElem?_set] at h1 h2
    simp only [if_true] at h1 h2
    split at h1
    · split at h2
      · cases h1; cases h2; exact r
      · cases h2
    · cases h1
  · rw [List.getElem?_set_ne e] at h1 h2
    obtain ⟨u, hu, ru⟩ := h.get h1
    rw [h2] at hu
    cases hu
    exact ru
end
/-! ### the cells of a def's names -/
inductive Cell where
  | emp
  | val (d : D)
  | own (d : D)
abbrev DEnv := List Cell
/-- at a def's entry: the heap, what may be changed by callers, the list that is handed in to be changed -/
structure GX where
  H0 : Hp
  M0 : Ad
  io : Option Addr
def CellOk (K : Fr) (g : GX) (M : Ad) (H : Hp) : Cell → Option V → Prop
  | .emp, _ => True
  | .val d, some v => Rep K M H d v
  | .own (.lst ds), some (.ref p) => M p ∧ (some p = g.io ∨ g.H0 p = none) ∧ ∃ vs, H p = some (.lst vs) ∧ Reps K M H ds vs
  | _, _ => False
structure EnvOk (K : Fr) (g : GX) (M : Ad) (δ : DEnv) (σ : Sg) (H : Hp) : Prop where
  len : δ.length = σ.length
  dom : ∀ a, M a → H a ≠ none
  up : ∀ a, g.M0 a → M a
  new : ∀ a, M a → g.M0 a ∨ g.H0 a = none
  d0 : ∀ a, g.M0 a → g.H0 a ≠ none
  pres : (∀ b o, g.H0 b = some o → some b ≠ g.io → Nt o → H b = some o) ∧ (∀ b, g.H0 b ≠ none → H b ≠ none) ∧ TabsOk K H
  cell : ∀ (i : Nat) (c : Cell) (v : Option V), δ[i]? = some c → σ[i]? = some v → CellOk K g M H c v
  apart : ∀ (i j : Nat) (d e : D) (p : Addr), δ[i]? = some (.own d) → δ[j]? = some (.own e) → σ[i]? = some (some (.ref p)) → σ[j]? = some (some (.ref p)) → i = j
  ion : ∀ p, g.io = some p → ∃ d, δ[0]? = some (.own d) ∧ σ[0]? = some (some (.ref p))
section
variable {K : Fr} {g : GX} {M M' : Ad} {δ : DEnv} {σ : Sg} {H H' : Hp}
theorem EnvOk.get {i : Nat} {c : Cell} (E : EnvOk K g M δ σ H) (h : δ[i]? = some c) : ∃ v, σ[i]? = some v ∧ CellOk K g M H c v := by
  have hi : i < σ.length := by rw [← E.len]; exact (List.getElem?_eq_some_iff.mp h).1
  exact ⟨_, List.getElem?_eq_getElem hi, E.cell i c _ h (List.getElem?_eq_getElem hi)⟩
theorem EnvOk.val {i : Nat} {d : D} (E : EnvOk K g M δ σ H) (h : δ[i]? = some (.val d)) : ∃ v, σ[i]? = some (some v) ∧ Rep K M H d v := by
  obtain ⟨v, h1, h2⟩ := E.get h
  cases v with
  | none => exact False.elim h2
  | some v => exact ⟨v, h1, h2⟩
structure OwnAt (K : Fr) (g : GX) (M : Ad) (H : Hp) (p : Addr) (ds : List D) (vs : List V) : Prop where
  m : M p
  from_ : some p = g.io ∨ g.H0 p = none
  at_ : H p = some (.lst vs)
  reps : Reps K M H ds vs
theorem EnvOk.own {i : Nat} {d : D} (E : EnvOk K g M δ σ H) (h : δ[i]? = some (.own d)) : ∃ p ds vs, d = .lst ds ∧ σ[i]? = some (some (.ref p)) ∧ OwnAt K g M H p ds vs := by
  obtain ⟨v, h1, h2⟩ := E.get h
  cases d with
  | lst ds =>
    cases v with
    | none => exact False.elim h2
    | some v =>
      cases v with
      | ref p =>
        obtain ⟨m, f, vs, a, r⟩ := h2
        exact ⟨p, ds, vs, rfl, h1, m, f, a, r⟩
      | _ => exact False.elim h2
  | _ => cases v with
    | none => exact False.elim h2
    | some v => exact False.elim h2
/-- the heap grows: all that was tracked stands -/
theorem EnvOk.same (E : EnvOk K g M δ σ H) (s : Same H H') : EnvOk K g M δ σ H' := by
  have gr : Grow M H M H' := Grow.of_same s
  refine ⟨E.len, fun a m z => ?_, E.up, E.new, E.d0, ⟨fun b o h n t => s _ _ (E.pres.1 b o h n t), fun b h => gr.n b (E.pres.2.1 b h), E.pres.2.2.same s⟩, fun i c v h1 h2 => ?_, E.apart, E.ion⟩
  · have := E.dom a m
    cases q : H a with
    | none => exact this q
    | some o => rw [s a o q] at z; cases z
  · have q := E.cell i c v h1 h2
    cases c with
    | emp => trivial
    | val d =>
      cases v with
      | none => exact q
      | some v => exact Rep.grow gr q
    | own d =>
      cases d with
      | lst ds =>
        cases v with
        | none => exact q
        | some v =>
          cases v with
          | ref p =>
            obtain ⟨m, f, vs, a, r⟩ := q
            exact ⟨m, f, vs, s _ _ a, r.grow gr⟩
          | _ => exact q
      | _ => cases v <;> exact q
/-- .. code tables may grow, too -/
theorem EnvOk.sm (E : EnvOk K g M δ σ H) (s : ∀ b o, H b = some o → Nt o → H' b = some o) (n : ∀ b, H b ≠ none → H' b ≠ none) (tb : TabsOk K H') : EnvOk K g M δ σ H' := by
  have gr : Grow M H M H' := ⟨fun _ h => .inl h, fun b o _ h t => s b o h t, n, fun b o t h => s b o h t.nt⟩
  refine ⟨E.len, fun a m => n a (E.dom a m), E.up, E.new, E.d0, ⟨fun b o h n t => s _ _ (E.pres.1 b o h n t) t, fun b h => n b (E.pres.2.1 b h), tb⟩, fun i c v h1 h2 => ?_, E.apart, E.ion⟩
  have q := E.cell i c v h1 h2
  cases c with
  | emp => trivial
  | val d =>
    cases v with
    | none => exact q
    | some v => exact Rep.grow gr q
  | own d =>
    obtain ⟨p, ds, vs, e, h3, O⟩ := E.own h1
    subst e
    rw [h2] at h3
    cases h3
    exact ⟨O.m, O.from_, vs, s _ _ O.at_ nt_lst, O.reps.grow gr⟩
theorem EnvOk.h0 (E : EnvOk K g M δ σ H) {p : Addr} (hp : H p = none) : g.H0 p = none := by
  cases e : g.H0 p with
  | none => rfl
  | some o => exact absurd hp (E.pres.2.1 p (some_ne e))
def Ad.and (M : Ad) (p : Addr) : Ad := fun b => M b ∨ b = p
theorem Grow.and {p : Addr} {o : HO} (hp : H p = none) : Grow M H (M.and p) (upd H p o) :=
  ⟨fun b m => m.elim .inl fun e => .inr (e ▸ hp), fun b o' _ h _ => by rw [upd_ne (ne_of_none h hp)]; exact h, fun b h => upd_dom h, fun b o' _ h => by rw [upd_ne (ne_of_none h hp)]; exact h⟩
/-- the general step: values are kept, M and the heap grow -/
theorem EnvOk.step (E : EnvOk K g M δ σ H) (gr : Grow M H M' H') (hu : ∀ a, M a → M' a) (hd : ∀ a, M' a → H' a ≠ none) (hn : ∀ a, M' a → M a ∨ H a = none)
    (ho : ∀ (i : Nat) (ds : List D) (p : Addr) (vs : List V), δ[i]? = some (.own (.lst ds)) → σ[i]? = some (some (.ref p)) → OwnAt K g M H p ds vs → ∃ vs', H' p = some (.lst vs') ∧ Reps K M' H' ds vs')
    (hp : ∀ b o, g.H0 b = some o → some b ≠ g.io → Nt o → H b = some o → H' b = some o) (tb : TabsOk K H') : EnvOk K g M' δ σ H' := by
  refine ⟨E.len, hd, fun a h => hu a (E.up a h), fun a h => ?_, E.d0, ⟨fun b o h n t => hp b o h n t (E.pres.1 b o h n t), fun b h => gr.n b (E.pres.2.1 b h), tb⟩, fun i c v h1 h2 => ?_, E.apart, E.ion⟩
  · rcases hn a h with h | h
    · exact E.new a h
    · exact .inr (E.h0 h)
  · have q := E.cell i c v h1 h2
    cases c with
    | emp => trivial
    | val d =>
      cases v with
      | none => exact q
      | some v => exact Rep.grow gr q
    | own d =>
      obtain ⟨p, ds, vs, e, h3, O⟩ := E.own h1
      subst e
      rw [h2] at h3
      cases h3
      obtain ⟨vs', a, r⟩ := ho i ds p vs h1 h2 O
      exact ⟨hu p O.m, O.from_, vs', a, r⟩
/-- a new object is laid -/
theorem EnvOk.and {p : Addr} {o : HO} (E : EnvOk K g M δ σ H) (hp : H p = none) (hn : Nt o := by first | exact nt_lst | exact nt_tup | exact nt_dT | exact nt_dK) : EnvOk K g (M.and p) δ σ (upd H p o) := by
  refine E.step (Grow.and hp) (fun a h => .inl h) (fun a m z => ?_) (fun a m => m.elim .inl fun e => .inr (e ▸ hp)) (fun i ds q vs h1 h2 O => ⟨vs, ?_, O.reps.grow (Grow.and hp)⟩) (fun b o' _ _ _ h => ?_) (E.pres.2.2.new hp hn)
  · rcases m with m | m
    · have := E.dom a m
      cases e : H a with
      | none => exact this e
      | some u =>
        rw [upd_ne (ne_of_none e hp), e] at z
        cases z
    · rw [m, upd_same] at z
      cases z
  · rw [upd_ne (ne_of_none O.at_ hp)]
    exact O.at_
  · rw [upd_ne (ne_of_none h hp)]
    exact h
end
end Dn

set_option Elab.async false
set_option linter.all false
set_option maxRecDepth 100000
set_option maxHeartbeats 4000000
namespace L2
open PySem PySem.Spec PyProof.Rows
theorem PE.imp {X : Cx} {e : Expr} {t t' : TE} (h : PE X e t) (f : ∀ σ H Q, t' σ H Q → t σ H Q) : PE X e t' := ⟨fun pins s σ H Q I q => h.run pins s σ H Q I (f _ _ _ q)⟩
theorem PT.imp {X : Cx} {e : Expr} {t t' : TT} (h : PT X e t) (f : ∀ σ H Q, t' σ H Q → t σ H Q) : PT X e t' := ⟨fun pins s σ H Q I q => h.run pins s σ H Q I (f _ _ _ q)⟩
theorem PW.imp {X : Cx} {e : Expr} {t t' : TT} (h : PW X e t) (f : ∀ σ H Q, t' σ H Q → t σ H Q) : PW X e t' := ⟨fun wh pins s σ H Q I q => h.run wh pins s σ H Q I (f _ _ _ q)⟩
theorem PA.imp {X : Cx} {e : List Expr} {t t' : TA} (h : PA X e t) (f : ∀ σ H Q, t' σ H Q → t σ H Q) : PA X e t' := ⟨fun p pins s σ H Q I q => h.run p pins s σ H Q I (f _ _ _ q)⟩
theorem PS.imp {X : Cx} {e : Stmt} {t t' : TS} (h : PS X e t) (f : ∀ D σ H, t' D σ H → t D σ H) : PS X e t' := ⟨fun pins s σ H D I q => h.run pins s σ H D I (f _ _ _ q)⟩
theorem PSs.imp {X : Cx} {e : List Stmt} {t t' : TS} (h : PSs X e t) (f : ∀ D σ H, t' D σ H → t D σ H) : PSs X e t' := ⟨fun pins s σ H D I q => h.run pins s σ H D I (f _ _ _ q)⟩
theorem PG.imp {X : Cx} {e : Expr} {t t' : TG} (h : PG X e t) (f : ∀ v σ H Q, t' v σ H Q → t v σ H Q) : PG X e t' := ⟨fun pins s σ H v u Q I r q => h.run pins s σ H v u Q I r (f _ _ _ _ q)⟩
theorem PGs.imp {X : Cx} {e : List Expr} {t t' : TGs} (h : PGs X e t) (f : ∀ v σ H Q, t' v σ H Q → t v σ H Q) : PGs X e t' := ⟨fun pins s σ H v u Q I r q => h.run pins s σ H v u Q I r (f _ _ _ _ q)⟩
theorem PI.imp {X : Cx} {tg e : Expr} {t t' : TI} (h : PI X tg e t) (f : ∀ σ H R, t' σ H R → t σ H R) : PI X tg e t' := ⟨fun pins s σ H R I q => h.run pins s σ H R I (f _ _ _ q)⟩
end L2
namespace Dn
open PySem PySem.Spec PyProof.Rows L2
/-! ### judgements -/
abbrev QD := D → DEnv → Prop
abbrev XD := Str → List D → DEnv → Prop
/-- an expression's reading over data -/
abbrev DEx := DEnv → QD → XD → Prop
/-- a test's -/
abbrev DTx := DEnv → (Bool → DEnv → Prop) → XD → Prop
/-- a list of arguments' -/
abbrev DAx := DEnv → (List D → DEnv → Prop) → XD → Prop
def ExcAt (K : Fr) (M : Ad) (H : Hp) (x : Str) (ds : List D) (cls : Value) (dd : Option Addr) : Prop :=
  cls = .ref (He.ga K x) ∧ ((ds = [] ∧ dd = none) ∨ ds ≠ [] ∧ ∃ a fs, dd = some a ∧ ¬ M a ∧ H a = some (.xd fs) ∧ Reps K M H ds (fs.map (·.2)))
/-- an expression changes the contents of own lists alone -/
def Kin (δ δ' : DEnv) : Prop := ∀ i : Nat, δ'[i]? = δ[i]? ∨ ∃ a b, δ[i]? = some (.own a) ∧ δ'[i]? = some (.own b)
theorem Kin.refl (δ : DEnv) : Kin δ δ := fun _ => .inl rfl
theorem Kin.trans {δ δ1 δ2 : DEnv} (a : Kin δ δ1) (b : Kin δ1 δ2) : Kin δ δ2 := fun i => by
  rcases b i with h | ⟨c, d, h1, h2⟩
  · rcases a i with h' | ⟨c, d, h1, h2⟩
    · exact .inl (h.trans h')
    · exact .inr ⟨c, d, h1, h.trans h2⟩
  · rcases a i with h' | ⟨c', d', h1', h2'⟩
    · exact .inr ⟨c, d, h'.symm.trans h1, h2⟩
    · exact .inr ⟨c', d, h1', h2⟩
theorem Kin.own {δ δ' : DEnv} (k : Kin δ δ') {i : Nat} {a : D} (h : δ'[i]? = some (.own a)) : ∃ b, δ[i]? = some (.own b) := by
  rcases k i with e | ⟨b, _, e, _⟩
  · exact ⟨a, e.symm.trans h⟩
  · exact ⟨b, e⟩
/-- b is no own list of the names -/
def NotOwn (δ : DEnv) (σ : Sg) (b : Addr) : Prop := ∀ (i : Nat) (d : D), δ[i]? = some (.own d) → σ[i]? ≠ some (some (.ref b))
structure Stp (M : Ad) (δ : DEnv) (σ : Sg) (H : Hp) (δ' : DEnv) (H' : Hp) : Prop where
  g : Grow M H M H'
  k : Kin δ δ'
  f : ∀ b o, H b = some o → NotOwn δ σ b → Nt o → H' b = some o
theorem Stp.refl (M : Ad) (δ : DEnv) (σ : Sg) (H : Hp) : Stp M δ σ H δ H := ⟨Grow.refl _ _, Kin.refl _, fun _ _ h _ _ => h⟩
theorem Kin.notOwn {δ δ' : DEnv} {σ : Sg} {b : Addr} (k : Kin δ δ') (n : NotOwn δ σ b) : NotOwn δ' σ b := fun i d h => by
  obtain ⟨c, hc⟩ := k.own h
  exact n i c hc
theorem Stp.trans {M : Ad} {δ δ1 δ2 : DEnv} {σ : Sg} {H H1 H2 : Hp} (a : Stp M δ σ H δ1 H1) (b : Stp M δ1 σ H1 δ2 H2) : Stp M δ σ H δ2 H2 :=
  ⟨a.g.trans b.g, a.k.trans b.k, fun c o h n t => b.f c o (a.f c o h n t) (a.k.notOwn n) t⟩
theorem Stp.same {M : Ad} {δ : DEnv} {σ : Sg} {H H' : Hp} (s : Same H H') : Stp M δ σ H δ H' := ⟨Grow.of_same s, Kin.refl _, fun b o h _ _ => s.k b o h⟩
/-- what a wish about exceptions makes of a wish over data -/
def ExOk (K : Fr) (g : GX) (W : WX) (M : Ad) (δ : DEnv) (σ : Sg) (H : Hp) (Xd : XD) : Prop :=
  ∀ x ds δ' cls dd H', Xd x ds δ' → EnvOk K g M δ' σ H' → Stp M δ σ H δ' H' → ExcAt K M H' x ds cls dd → W cls dd σ H'
def cE (K : Fr) (g : GX) (W : WX) (e : DEx) : TE := fun σ H Q => ∃ M δ Qd Xd, EnvOk K g M δ σ H ∧ e δ Qd Xd ∧
  (∀ d δ' v H', Qd d δ' → EnvOk K g M δ' σ H' → Stp M δ σ H δ' H' → Rep K M H' d v → Q v H') ∧ ExOk K g W M δ σ H Xd
def cT (K : Fr) (g : GX) (W : WX) (e : DTx) : TT := fun σ H Q => ∃ M δ Qd Xd, EnvOk K g M δ σ H ∧ e δ Qd Xd ∧
  (∀ b δ' H', Qd b δ' → EnvOk K g M δ' σ H' → Stp M δ σ H δ' H' → Q b H') ∧ ExOk K g W M δ σ H Xd
def cA (K : Fr) (g : GX) (W : WX) (e : DAx) : TA := fun σ H Q => ∃ M δ Qd Xd, EnvOk K g M δ σ H ∧ e δ Qd Xd ∧
  (∀ ds δ' vs H', Qd ds δ' → EnvOk K g M δ' σ H' → Stp M δ σ H δ' H' → Reps K M H' ds vs → Q vs H') ∧ ExOk K g W M δ σ H Xd
theorem ExOk.grow {K : Fr} {g : GX} {W : WX} {M : Ad} {δ δ1 : DEnv} {σ : Sg} {H H1 : Hp} {Xd : XD} (x : ExOk K g W M δ σ H Xd) (r : Stp M δ σ H δ1 H1) : ExOk K g W M δ1 σ H1 Xd :=
  fun n ds δ' cls dd H' h1 h2 h3 h4 => x n ds δ' cls dd H' h1 h2 (r.trans h3) h4
structure DE (X : Cx) (g : GX) (W : WX) (exp : Expr) (e : DEx) : Prop where
  pe : PE X exp (cE X.K g W e)
structure DT (X : Cx) (g : GX) (W : WX) (exp : Expr) (e : DTx) : Prop where
  pt : PT X exp (cT X.K g W e)
structure DW (X : Cx) (g : GX) (W : WX) (exp : Expr) (e : DTx) : Prop where
  pw : PW X exp (cT X.K g W e)
structure DA (X : Cx) (g : GX) (W : WX) (es : List Expr) (e : DAx) : Prop where
  pa : PA X es (cA X.K g W e)
section
variable {X : Cx} {g : GX} {W : WX} {a b c : Expr} {ea eb ec : DEx} {pos : Pos}
/-! ### names, constants -/
def vD (i : Nat) : DEx := fun δ Q _ => match δ[i]? with
  | some (.val d) => Q d δ
  | _ => False
def cD (d : D) : DEx := fun δ Q _ => Q d δ
theorem de_var {i : Nat} {x : Str} (h : PE X (.Name x pos) (tVar i)) : DE X g W (.Name x pos) (vD i) := by
  refine ⟨h.imp fun σ H Q q => ?_⟩
  obtain ⟨M, δ, Qd, Xd, E, he, k, _⟩ := q
  unfold vD at he
  split at he
  · rename_i d e
    obtain ⟨v, h1, h2⟩ := E.val e
    exact ⟨v, h1, k d δ v H he E (Stp.refl _ _ _ _) h2⟩
  · exact False.elim he
theorem de_c {d : D} {v : V} (h : PE X a (tC v)) (r : ∀ M H, Rep X.K M H d v) : DE X g W a (cD d) := by
  refine ⟨h.imp fun σ H Q q => ?_⟩
  obtain ⟨M, δ, Qd, Xd, E, he, k, _⟩ := q
  exact k d δ v H he E (Stp.refl _ _ _ _) (r _ _)
theorem de_int {i : Int} {j} : DE X g W (.Constant (.int i) j pos) (cD (.int i)) := de_c pe_int fun _ _ => rfl
theorem de_bl {b : Bool} {j} : DE X g W (.Constant (.bool b) j pos) (cD (.bl b)) := de_c pe_bl fun _ _ => rfl
theorem de_non {j} : DE X g W (.Constant .none j pos) (cD .non) := de_c pe_non fun _ _ => rfl
theorem de_str {x : Str} {j} : DE X g W (.Constant (.str x) j pos) (cD (.str x)) := de_c pe_str fun _ _ => rfl
/-- what is never come to -/
def nD : DEx := fun _ _ _ => False
theorem de_never : DE X g W a nD := ⟨⟨fun _ _ _ _ _ _ h => by obtain ⟨_, _, _, _, _, z, _⟩ := h; exact False.elim z⟩⟩
/-! ### two operands -/
/-- an operation on data: what is wanted of its value -/
abbrev D2 := D → D → (D → Prop) → Prop
def opD (f : D2) (ea eb : DEx) : DEx := fun δ Q Xd => ea δ (fun x δ1 => eb δ1 (fun y δ2 => f x y fun z => Q z δ2) Xd) Xd
def R2Ok (K : Fr) (r : R2) (f : D2) : Prop := ∀ (M : Ad) (H : Hp) (x y : D) (v u : V) (Q : VK) (P : D → Prop), (∀ a, M a → H a ≠ none) → Rep K M H x v → Rep K M H y u → f x y P →
  (∀ z w H', P z → Same H H' → Rep K M H' z w → Q w H') → r v u H Q
/-- the end of an operation that only lays new things -/
theorem op_end {K : Fr} {W : WX} {M : Ad} {δ0 δ : DEnv} {σ : Sg} {H0 H : Hp} {Qd : QD} {Q : VK} {P : D → Prop} (E : EnvOk K g M δ σ H) (gr : Stp M δ0 σ H0 δ H) (hp : ∀ z, P z → Qd z δ)
    (k : ∀ d δ' v H', Qd d δ' → EnvOk K g M δ' σ H' → Stp M δ0 σ H0 δ' H' → Rep K M H' d v → Q v H') : ∀ z w H', P z → Same H H' → Rep K M H' z w → Q w H' := fun z w H' h1 h2 h3 =>
  k z δ w H' (hp z h1) (E.same h2) (gr.trans (Stp.same h2)) h3
theorem two_sound {K : Fr} {r : R2} {f : D2} (hr : R2Ok K r f) {σ : Sg} {H : Hp} {Q : VK} (q : cE K g W (opD f ea eb) σ H Q) : tOp r (cE K g W ea) (cE K g W eb) σ H Q := by
  obtain ⟨M, δ, Qd, Xd, E, he, k, kx⟩ := q
  refine ⟨M, δ, _, Xd, E, he, fun x δ1 v H1 h1 E1 g1 r1 => ?_, kx⟩
  refine ⟨M, δ1, _, Xd, E1, h1, fun y δ2 u H2 h2 E2 g2 r2 => ?_, kx.grow g1⟩
  exact hr M H2 x y v u Q _ E2.dom (r1.grow g2.g) r2 h2 (op_end (W := W) E2 (g1.trans g2) (fun _ z => z) k)
theorem de_op {op : Operator} {r : R2} {f : D2} (ho : OpR X (binaryOp op) r) (hr : R2Ok X.K r f) (ha : DE X g W a ea) (hb : DE X g W b eb) : DE X g W (.BinOp a op b pos) (opD f ea eb) :=
  ⟨(pe_op ho ha.pe hb.pe).imp fun _ _ _ q => two_sound hr q⟩
theorem de_cmp {op : CmpOp} {r : R2} {f : D2} (ho : OpR X (compareOp op) r) (hr : R2Ok X.K r f) (ha : DE X g W a ea) (hb : DE X g W b eb) (hm : behindInMarks op b = false) : DE X g W (.Compare a [op] [b] pos) (opD f ea eb) :=
  ⟨(pe_cmpR ho ha.pe hb.pe hm).imp fun _ _ _ q => two_sound hr q⟩
/-- a value that is True or False -/
def onB (P : Bool → Prop) : D → Prop
  | .bl b => P b
  | _ => False
def tD (e : DEx) : DTx := fun δ Q Xd => e δ (fun d δ1 => onB (fun b => Q b δ1) d) Xd
theorem bl_of {K : Fr} {M : Ad} {H : Hp} {P : Bool → Prop} : ∀ {d : D} {v : V}, Rep K M H d v → onB P d → ∃ b, v = .bl b ∧ P b
  | .bl b, v, r, h => ⟨b, r, h⟩
  | .non, _, _, h => h.elim
  | .int _, _, _, h => h.elim
  | .str _, _, _, h => h.elim
  | .tup _, _, _, h => h.elim
  | .lst _, _, _, h => h.elim
  | .obj _ _ _, _, _, h => h.elim
  | .scr _, _, _, h => h.elim
  | .at _, _, _, h => h.elim
  | .dct _ _, _, _, h => h.elim
  | .dck _ _, _, _, h => h.elim
theorem test_sound {K : Fr} {e : DEx} {σ : Sg} {H : Hp} {Q : Bool → Hp → Prop} (q : cT K g W (tD e) σ H Q) : cE K g W e σ H (fun x H' => ∃ k, x = .bl k ∧ Q k H') := by
  obtain ⟨M, δ, Qd, Xd, E, he, k, kx⟩ := q
  refine ⟨M, δ, _, Xd, E, he, fun d δ1 v H1 h1 E1 g1 r1 => ?_, kx⟩
  obtain ⟨b, e1, h2⟩ := bl_of (P := fun b => Qd b δ1) r1 h1
  exact ⟨b, e1, k b δ1 H1 h2 E1 g1⟩
/-- a comparison as a test -/
theorem dt_cmp {op : CmpOp} {r : R2} {f : D2} (ho : OpR X (compareOp op) r) (hr : R2Ok X.K r f) (ha : DE X g W a ea) (hb : DE X g W b eb) (hm : behindInMarks op b = false) : DT X g W (.Compare a [op] [b] pos) (tD (opD f ea eb)) :=
  ⟨(pt_cmpR ho ha.pe hb.pe hm).imp fun σ H Q q => two_sound hr (test_sound q)⟩
/-- an expression that gives True or False, as a test -/
theorem dt_val (ha : DE X g W a ea) (hq : ∀ whole, isTrue a X.env whole = (do let v ← whole; standAt a.pos; holding [v] (truthy v)) := by intro _; rfl) : DT X g W a (tD ea) :=
  ⟨(pt_val ha.pe hq).imp fun σ H Q q => test_sound q⟩
/-! ### chains of comparisons -/
def chD (f f' : D2) (ea eb ec : DEx) : DEx := fun δ Q Xd => ea δ (fun x δ1 => eb δ1 (fun y δ2 => f x y (onB fun k => if k = true then ec δ2 (fun u δ3 => f' y u fun z' => Q z' δ3) Xd else Q (.bl false) δ2)) Xd) Xd
theorem chain_sound {K : Fr} {r r' : R2} {f f' : D2} (hr : R2Ok K r f) (hr' : R2Ok K r' f') {σ : Sg} {H : Hp} {Q : VK} (q : cE K g W (chD f f' ea eb ec) σ H Q) : tChain r r' (cE K g W ea) (cE K g W eb) (cE K g W ec) σ H Q := by
  obtain ⟨M, δ, Qd, Xd, E, he, k, kx⟩ := q
  refine ⟨M, δ, _, Xd, E, he, fun x δ1 v H1 h1 E1 g1 r1 => ?_, kx⟩
  refine ⟨M, δ1, _, Xd, E1, h1, fun y δ2 u H2 h2 E2 g2 r2 => ?_, kx.grow g1⟩
  refine hr M H2 x y v u _ _ E2.dom (r1.grow g2.g) r2 h2 fun z w H3 h3 s3 r3 => ?_
  obtain ⟨kk, e1, h4⟩ := bl_of r3 h3
  have E3 := E2.same s3
  have g3 : Stp M δ σ H δ2 H3 := (g1.trans g2).trans (Stp.same s3)
  refine ⟨kk, e1, ?_⟩
  by_cases hk : kk = true
  · rw [if_pos hk] at h4 ⊢
    refine ⟨M, δ2, _, Xd, E3, h4, fun c δ4 w4 H4 h5 E4 g4 r4 => ?_, kx.grow g3⟩
    exact hr' M H4 y c u w4 Q _ E4.dom (r2.grow ((Grow.of_same s3).trans g4.g)) r4 h5 (op_end (W := W) E4 (g3.trans g4) (fun _ z => z) k)
  · rw [if_neg hk] at h4 ⊢
    exact k _ δ2 _ H3 h4 E3 g3 rfl
theorem de_chain {op op' : CmpOp} {r r' : R2} {f f' : D2} (ho : OpR X (compareOp op) r) (hr : R2Ok X.K r f) (ho' : OpR X (compareOp op') r') (hr' : R2Ok X.K r' f') (ha : DE X g W a ea) (hb : DE X g W b eb) (hc : DE X g W c ec)
    (hm : lastMarks [op, op'] [b, c] = false := by with_unfolding_all rfl) : DE X g W (.Compare a [op, op'] [b, c] pos) (chD f f' ea eb ec) :=
  ⟨(pe_chain ho ho' ha.pe hb.pe hc.pe hm).imp fun _ _ _ q => chain_sound hr hr' q⟩
theorem dt_chain {op op' : CmpOp} {r r' : R2} {f f' : D2} (ho : OpR X (compareOp op) r) (hr : R2Ok X.K r f) (ho' : OpR X (compareOp op') r') (hr' : R2Ok X.K r' f') (ha : DE X g W a ea) (hb : DE X g W b eb) (hc : DE X g W c ec)
    (hm : lastMarks [op, op'] [b, c] = false := by with_unfolding_all rfl) : DT X g W (.Compare a [op, op'] [b, c] pos) (tD (chD f f' ea eb ec)) :=
  ⟨(pt_chain ho ho' ha.pe hb.pe hc.pe hm).imp fun _ _ _ q => chain_sound hr hr' (test_sound q)⟩
/-! ### and, or, not, if .. else -/
variable {ta tb tc : DTx} {rest : List Expr}
def andD (ta tb : DTx) : DTx := fun δ Q Xd => ta δ (fun b δ1 => if b = true then tb δ1 Q Xd else Q false δ1) Xd
def orD (ta tb : DTx) : DTx := fun δ Q Xd => ta δ (fun b δ1 => if b = true then Q true δ1 else tb δ1 Q Xd) Xd
def notD (ta : DTx) : DTx := fun δ Q Xd => ta δ (fun b δ1 => Q (!b) δ1) Xd
theorem DW.dt (h : DW X g W a ta) : DT X g W a ta := ⟨PW.pt h.pw⟩
theorem dw_and1 (ha : DT X g W a ta) : DW X g W (.BoolOp .And [a] pos) ta := ⟨pw_and1 ha.pt⟩
theorem dw_or1 (ha : DT X g W a ta) : DW X g W (.BoolOp .Or [a] pos) ta := ⟨pw_or1 ha.pt⟩
theorem dw_and (ha : DT X g W a ta) (hb : DW X g W (.BoolOp .And (b :: rest) pos) tb) : DW X g W (.BoolOp .And (a :: b :: rest) pos) (andD ta tb) := by
  refine ⟨(pw_and ha.pt hb.pw).imp fun σ H Q q => ?_⟩
  obtain ⟨M, δ, Qd, Xd, E, he, k, kx⟩ := q
  refine ⟨M, δ, _, Xd, E, he, fun bb δ1 H1 h1 E1 g1 => ?_, kx⟩
  by_cases hb : bb = true
  · rw [if_pos hb] at h1 ⊢
    exact ⟨M, δ1, Qd, Xd, E1, h1, fun b2 δ2 H2 h2 E2 g2 => k b2 δ2 H2 h2 E2 (g1.trans g2), kx.grow g1⟩
  · rw [if_neg hb] at h1 ⊢
    exact k false δ1 H1 h1 E1 g1
theorem dw_or (ha : DT X g W a ta) (hb : DW X g W (.BoolOp .Or (b :: rest) pos) tb) : DW X g W (.BoolOp .Or (a :: b :: rest) pos) (orD ta tb) := by
  refine ⟨(pw_or ha.pt hb.pw).imp fun σ H Q q => ?_⟩
  obtain ⟨M, δ, Qd, Xd, E, he, k, kx⟩ := q
  refine ⟨M, δ, _, Xd, E, he, fun bb δ1 H1 h1 E1 g1 => ?_, kx⟩
  by_cases hb : bb = true
  · rw [if_pos hb] at h1 ⊢
    exact k true δ1 H1 h1 E1 g1
  · rw [if_neg hb] at h1 ⊢
    exact ⟨M, δ1, Qd, Xd, E1, h1, fun b2 δ2 H2 h2 E2 g2 => k b2 δ2 H2 h2 E2 (g1.trans g2), kx.grow g1⟩
theorem dt_not (ha : DT X g W a ta) : DT X g W (.UnaryOp .Not a pos) (notD ta) := by
  refine ⟨(pt_not ha.pt).imp fun σ H Q q => ?_⟩
  obtain ⟨M, δ, Qd, Xd, E, he, k, kx⟩ := q
  exact ⟨M, δ, _, Xd, E, he, fun bb δ1 H1 h1 E1 g1 => k _ δ1 H1 h1 E1 g1, kx⟩
/-- .. as values -/
def andV (ea eb : DEx) : DEx := fun δ Q Xd => ea δ (fun d δ1 => onB (fun b => if b = true then eb δ1 Q Xd else Q (.bl false) δ1) d) Xd
def orV (ea eb : DEx) : DEx := fun δ Q Xd => ea δ (fun d δ1 => onB (fun b => if b = true then Q (.bl true) δ1 else eb δ1 Q Xd) d) Xd
def notV (ea : DEx) : DEx := fun δ Q Xd => ea δ (fun d δ1 => onB (fun b => Q (.bl (!b)) δ1) d) Xd
theorem de_one {op} (ha : DE X g W a ea) : DE X g W (.BoolOp op [a] pos) ea := ⟨pe_one ha.pe⟩
theorem de_and (ha : DE X g W a ea) (hb : DE X g W (.BoolOp .And (b :: rest) pos) eb) : DE X g W (.BoolOp .And (a :: b :: rest) pos) (andV ea eb) := by
  refine ⟨(pe_and ha.pe hb.pe).imp fun σ H Q q => ?_⟩
  obtain ⟨M, δ, Qd, Xd, E, he, k, kx⟩ := q
  refine ⟨M, δ, _, Xd, E, he, fun d δ1 v H1 h1 E1 g1 r1 => ?_, kx⟩
  obtain ⟨bb, e1, h2⟩ := bl_of r1 h1
  refine ⟨bb, e1, ?_⟩
  by_cases hb : bb = true
  · rw [if_pos hb] at h2 ⊢
    exact ⟨M, δ1, Qd, Xd, E1, h2, fun b2 δ2 v2 H2 h2 E2 g2 r2 => k b2 δ2 v2 H2 h2 E2 (g1.trans g2) r2, kx.grow g1⟩
  · rw [if_neg hb] at h2 ⊢
    exact k _ δ1 _ H1 h2 E1 g1 rfl
theorem de_or (ha : DE X g W a ea) (hb : DE X g W (.BoolOp .Or (b :: rest) pos) eb) : DE X g W (.BoolOp .Or (a :: b :: rest) pos) (orV ea eb) := by
  refine ⟨(pe_or ha.pe hb.pe).imp fun σ H Q q => ?_⟩
  obtain ⟨M, δ, Qd, Xd, E, he, k, kx⟩ := q
  refine ⟨M, δ, _, Xd, E, he, fun d δ1 v H1 h1 E1 g1 r1 => ?_, kx⟩
  obtain ⟨bb, e1, h2⟩ := bl_of r1 h1
  refine ⟨bb, e1, ?_⟩
  by_cases hb : bb = true
  · rw [if_pos hb] at h2 ⊢
    exact k _ δ1 _ H1 h2 E1 g1 rfl
  · rw [if_neg hb] at h2 ⊢
    exact ⟨M, δ1, Qd, Xd, E1, h2, fun b2 δ2 v2 H2 h2 E2 g2 r2 => k b2 δ2 v2 H2 h2 E2 (g1.trans g2) r2, kx.grow g1⟩
theorem de_not (ha : DE X g W a ea) : DE X g W (.UnaryOp .Not a pos) (notV ea) := by
  refine ⟨(pe_not ha.pe).imp fun σ H Q q => ?_⟩
  obtain ⟨M, δ, Qd, Xd, E, he, k, kx⟩ := q
  refine ⟨M, δ, _, Xd, E, he, fun d δ1 v H1 h1 E1 g1 r1 => ?_, kx⟩
  obtain ⟨bb, e1, h2⟩ := bl_of r1 h1
  exact ⟨bb, e1, k _ δ1 _ H1 h2 E1 g1 rfl⟩
def ifD (tc : DTx) (ea eb : DEx) : DEx := fun δ Q Xd => tc δ (fun b δ1 => if b = true then ea δ1 Q Xd else eb δ1 Q Xd) Xd
theorem de_if (hc : DT X g W c tc) (ha : DE X g W a ea) (hb : DE X g W b eb) : DE X g W (.IfExp c a b pos) (ifD tc ea eb) := by
  refine ⟨(pe_ifExp hc.pt ha.pe hb.pe).imp fun σ H Q q => ?_⟩
  obtain ⟨M, δ, Qd, Xd, E, he, k, kx⟩ := q
  refine ⟨M, δ, _, Xd, E, he, fun bb δ1 H1 h1 E1 g1 => ?_, kx⟩
  by_cases hb : bb = true
  · rw [if_pos hb] at h1 ⊢
    exact ⟨M, δ1, Qd, Xd, E1, h1, fun b2 δ2 v2 H2 h2 E2 g2 r2 => k b2 δ2 v2 H2 h2 E2 (g1.trans g2) r2, kx.grow g1⟩
  · rw [if_neg hb] at h1 ⊢
    exact ⟨M, δ1, Qd, Xd, E1, h1, fun b2 δ2 v2 H2 h2 E2 g2 r2 => k b2 δ2 v2 H2 h2 E2 (g1.trans g2) r2, kx.grow g1⟩
/-! ### lists of arguments, displays -/
variable {es : List Expr} {as : DAx}
def anD : DAx := fun δ Q _ => Q [] δ
def acD (ea : DEx) (as : DAx) : DAx := fun δ Q Xd => ea δ (fun d δ1 => as δ1 (fun ds δ2 => Q (d :: ds) δ2) Xd) Xd
theorem da_nil : DA X g W [] anD := by
  refine ⟨pa_nil.imp fun σ H Q q => ?_⟩
  obtain ⟨M, δ, Qd, Xd, E, he, k, kx⟩ := q
  exact k [] δ [] H he E (Stp.refl _ _ _ _) rfl
theorem da_cons (ha : DE X g W a ea) (hs : DA X g W es as) (hq : starEach (a :: es) X.env = (false, eval a X.env) :: starEach es X.env := by rfl) : DA X g W (a :: es) (acD ea as) := by
  refine ⟨(pa_cons ha.pe hs.pa hq).imp fun σ H Q q => ?_⟩
  obtain ⟨M, δ, Qd, Xd, E, he, k, kx⟩ := q
  refine ⟨M, δ, _, Xd, E, he, fun d δ1 v H1 h1 E1 g1 r1 => ?_, kx⟩
  refine ⟨M, δ1, _, Xd, E1, h1, fun ds δ2 vs H2 h2 E2 g2 r2 => ?_, kx.grow g1⟩
  exact k (d :: ds) δ2 (v :: vs) H2 h2 E2 (g1.trans g2) ⟨v, vs, rfl, r1.grow g2.g, r2⟩
def few (n : Nat) : Prop := n ≤ 1000000
theorem few_line {n : Nat} (h : few n) : n ≤ sizeLine := by rw [sizeLine_eq]; exact Nat.le_trans h (by decide)
theorem few_lt {n : Nat} (h : few n) : n < sizeLine := by rw [sizeLine_eq]; exact Nat.lt_of_le_of_lt h (by decide)
theorem not_dom {M : Ad} {H : Hp} {p : Addr} (d : ∀ a, M a → H a ≠ none) (n : H p = none) : ¬ M p := fun m => d p m n
def tupD (as : DAx) : DEx := fun δ Q Xd => as δ (fun ds δ1 => few ds.length ∧ Q (.tup ds) δ1) Xd
def lstD (as : DAx) : DEx := fun δ Q Xd => as δ (fun ds δ1 => few ds.length ∧ Q (.lst ds) δ1) Xd
theorem de_tup {x1} (hs : DA X g W es as) : DE X g W (.Tuple es x1 pos) (tupD as) := by
  refine ⟨(pe_tup hs.pa).imp fun σ H Q q => ?_⟩
  obtain ⟨M, δ, Qd, Xd, E, he, k, kx⟩ := q
  refine ⟨M, δ, _, Xd, E, he, fun ds δ1 vs H1 ⟨hf, h1⟩ E1 g1 r1 => ⟨by rw [← r1.length]; exact few_line hf, fun p hp => ?_⟩, kx⟩
  have s := same_upd (o := .tup vs) hp
  exact k (.tup ds) δ1 (.ref p) _ h1 (E1.same s) (g1.trans (Stp.same s)) ⟨p, vs, rfl, .inl (.inl upd_same), r1.grow (Grow.of_same s)⟩
theorem de_lst (hs : DA X g W es as) : DE X g W (.List es pos) (lstD as) := by
  refine ⟨(pe_lst hs.pa).imp fun σ H Q q => ?_⟩
  obtain ⟨M, δ, Qd, Xd, E, he, k, kx⟩ := q
  refine ⟨M, δ, _, Xd, E, he, fun ds δ1 vs H1 ⟨hf, h1⟩ E1 g1 r1 => ⟨by rw [← r1.length]; exact few_line hf, fun p hp => ?_⟩, kx⟩
  have s := same_upd (o := .lst vs) hp
  exact k (.lst ds) δ1 (.ref p) _ h1 (E1.same s) (g1.trans (Stp.same s)) ⟨p, vs, rfl, ⟨not_dom E1.dom hp, upd_same⟩, r1.grow (Grow.of_same s)⟩
end
end Dn

set_option Elab.async false
set_option linter.all false
set_option maxRecDepth 100000
set_option maxHeartbeats 4000000
namespace Dn
open PySem PySem.Spec PyProof.Rows L2
/-! ### targets -/
abbrev DGt := D → DEnv → (DEnv → Prop) → Prop
abbrev DGs := List D → DEnv → (DEnv → Prop) → Prop
/-- what a target changes: its own places -/
structure Tgt (ts : List Nat) (δ : DEnv) (σ : Sg) (δ' : DEnv) (σ' : Sg) : Prop where
  len : σ'.length = σ.length
  s : ∀ i : Nat, i ∉ ts → σ'[i]? = σ[i]?
  d : ∀ i : Nat, i ∉ ts → δ'[i]? = δ[i]?
  o : ∀ i : Nat, i ∈ ts → ∀ d, δ'[i]? ≠ some (.own d)
theorem Tgt.trans {ts us : List Nat} {δ δ1 δ2 : DEnv} {σ σ1 σ2 : Sg} (a : Tgt ts δ σ δ1 σ1) (b : Tgt us δ1 σ1 δ2 σ2) : Tgt (ts ++ us) δ σ δ2 σ2 where
  len := b.len.trans a.len
  s := fun i hi => (b.s i fun z => hi (List.mem_append_right _ z)).trans (a.s i fun z => hi (List.mem_append_left _ z))
  d := fun i hi => (b.d i fun z => hi (List.mem_append_right _ z)).trans (a.d i fun z => hi (List.mem_append_left _ z))
  o := fun i hi d => by
    by_cases hu : i ∈ us
    · exact b.o i hu d
    · rw [b.d i hu]
      exact a.o i ((List.mem_append.mp hi).resolve_right hu) d
theorem Tgt.refl {δ : DEnv} {σ : Sg} : Tgt [] δ σ δ σ := ⟨rfl, fun _ _ => rfl, fun _ _ => rfl, fun _ h => by cases h⟩
theorem Tgt.one {i : Nat} {d : D} {v : V} {δ : DEnv} {σ : Sg} : Tgt [i] δ σ (δ.set i (.val d)) (σ.set i (some v)) where
  len := List.length_set
  s := fun j hj => List.getElem?_set_ne fun e => hj (by rw [e]; exact List.mem_singleton.mpr rfl)
  d := fun j hj => List.getElem?_set_ne fun e => hj (by rw [e]; exact List.mem_singleton.mpr rfl)
  o := fun j hj e h => by
    have ej : j = i := List.mem_singleton.mp hj
    subst ej
    rw [List.getElem?_set] at h
    simp only [if_true] at h
    split at h <;> cases h
def cG (K : Fr) (g : GX) (ts : List Nat) (gt : DGt) : TG := fun v σ H Q => ∃ M δ d Qd, EnvOk K g M δ σ H ∧ Rep K M H d v ∧ gt d δ Qd ∧
  ∀ δ' σ', Qd δ' → EnvOk K g M δ' σ' H → Tgt ts δ σ δ' σ' → Q σ' H
def cGs (K : Fr) (g : GX) (ts : List Nat) (gt : DGs) : TGs := fun v σ H Q => ∃ M δ d Qd, EnvOk K g M δ σ H ∧ Reps K M H d v ∧ gt d δ Qd ∧
  ∀ δ' σ', Qd δ' → EnvOk K g M δ' σ' H → Tgt ts δ σ δ' σ' → Q σ' H
structure DG (X : Cx) (g : GX) (tg : Expr) (ts : List Nat) (gt : DGt) : Prop where
  pg : PG X tg (cG X.K g ts gt)
structure DGS (X : Cx) (g : GX) (tg : List Expr) (ts : List Nat) (gt : DGs) : Prop where
  pgs : PGs X tg (cGs X.K g ts gt)
/-- the list that is handed in keeps its name -/
def slotOk (i : Nat) (δ : DEnv) : Prop := match i, (δ[0]? : Option Cell) with
  | 0, some (Cell.own _) => False
  | _, _ => True
theorem slotOk.ne {i : Nat} {δ : DEnv} {d : D} (h : slotOk i δ) (e : δ[0]? = some (.own d)) : i ≠ 0 := by
  intro z
  subst z
  unfold slotOk at h
  rw [e] at h
  exact h
theorem get_set {α : Type} {l : List α} {i j : Nat} {x y : α} (h : (l.set i x)[j]? = some y) : (j = i ∧ y = x ∧ i < l.length) ∨ (j ≠ i ∧ l[j]? = some y) := by
  by_cases e : i = j
  · subst e
    rw [List.getElem?_set] at h
    simp only [if_true] at h
    split at h
    · rename_i hl
      exact .inl ⟨rfl, (Option.some.inj h).symm, hl⟩
    · cases h
  · rw [List.getElem?_set_ne e] at h
    exact .inr ⟨Ne.symm e, h⟩
section
variable {K : Fr} {g : GX} {M : Ad} {δ : DEnv} {σ : Sg} {H : Hp}
theorem EnvOk.setVal {i : Nat} {d : D} {v : V} (E : EnvOk K g M δ σ H) (r : Rep K M H d v) (so : slotOk i δ) : EnvOk K g M (δ.set i (.val d)) (σ.set i (some v)) H := by
  refine ⟨by rw [List.length_set, List.length_set, E.len], E.dom, E.up, E.new, E.d0, E.pres, fun j c u h1 h2 => ?_, fun j k x y p h1 h2 h3 h4 => ?_, fun p hp => ?_⟩
  · rcases get_set h1 with ⟨e, e1, _⟩ | ⟨n, h1⟩
    · rcases get_set h2 with ⟨_, e2, _⟩ | ⟨n, _⟩
      · subst e1 e2
        exact r
      · exact absurd e n
    · rcases get_set h2 with ⟨e, _, _⟩ | ⟨_, h2⟩
      · exact absurd e n
      · exact E.cell j c u h1 h2
  · rcases get_set h1 with ⟨_, e, _⟩ | ⟨n1, h1⟩
    · cases e
    · rcases get_set h2 with ⟨_, e, _⟩ | ⟨n2, h2⟩
      · cases e
      · rcases get_set h3 with ⟨e, _, _⟩ | ⟨_, h3⟩
        · exact absurd e n1
        · rcases get_set h4 with ⟨e, _, _⟩ | ⟨_, h4⟩
          · exact absurd e n2
          · exact E.apart j k x y p h1 h2 h3 h4
  · obtain ⟨e, h1, h2⟩ := E.ion p hp
    have n := so.ne h1
    exact ⟨e, by rw [List.getElem?_set_ne n]; exact h1, by rw [List.getElem?_set_ne n]; exact h2⟩
/-- a new list of one's own -/
theorem EnvOk.setOwn {i : Nat} {ds : List D} {vs : List V} {p : Addr} (E : EnvOk K g M δ σ H) (m : M p) (f : g.H0 p = none) (a : H p = some (.lst vs)) (r : Reps K M H ds vs) (so : slotOk i δ)
    (ap : ∀ (j : Nat) (e : D), δ[j]? = some (.own e) → j ≠ i → σ[j]? ≠ some (some (.ref p))) : EnvOk K g M (δ.set i (.own (.lst ds))) (σ.set i (some (.ref p))) H := by
  refine ⟨by rw [List.length_set, List.length_set, E.len], E.dom, E.up, E.new, E.d0, E.pres, fun j c u h1 h2 => ?_, fun j k x y q h1 h2 h3 h4 => ?_, fun q hq => ?_⟩
  · rcases get_set h1 with ⟨e, e1, _⟩ | ⟨n, h1⟩
    · rcases get_set h2 with ⟨_, e2, _⟩ | ⟨n, _⟩
      · subst e1 e2
        exact ⟨m, .inr f, vs, a, r⟩
      · exact absurd e n
    · rcases get_set h2 with ⟨e, _, _⟩ | ⟨_, h2⟩
      · exact absurd e n
      · exact E.cell j c u h1 h2
  · rcases get_set h1 with ⟨e1, _, _⟩ | ⟨n1, h1⟩
    · rcases get_set h2 with ⟨e2, _, _⟩ | ⟨n2, h2⟩
      · rw [e1, e2]
      · rcases get_set h4 with ⟨e, _, _⟩ | ⟨_, h4⟩
        · exact absurd e n2
        · rcases get_set h3 with ⟨_, e3, _⟩ | ⟨n, _⟩
          · cases e3
            exact absurd h4 (ap k y h2 n2)
          · exact absurd e1 n
    · rcases get_set h2 with ⟨e2, _, _⟩ | ⟨n2, h2⟩
      · rcases get_set h3 with ⟨e, _, _⟩ | ⟨_, h3⟩
        · exact absurd e n1
        · rcases get_set h4 with ⟨_, e4, _⟩ | ⟨n, _⟩
          · cases e4
            exact absurd h3 (ap j x h1 n1)
          · exact absurd e2 n
      · rcases get_set h3 with ⟨e, _, _⟩ | ⟨_, h3⟩
        · exact absurd e n1
        · rcases get_set h4 with ⟨e, _, _⟩ | ⟨_, h4⟩
          · exact absurd e n2
          · exact E.apart j k x y q h1 h2 h3 h4
  · obtain ⟨e, h1, h2⟩ := E.ion q hq
    have n := so.ne h1
    exact ⟨e, by rw [List.getElem?_set_ne n]; exact h1, by rw [List.getElem?_set_ne n]; exact h2⟩
/-- an own list has new contents -/
theorem EnvOk.setOwnTo {i : Nat} {ds0 ds : List D} {vs0 vs : List V} {p : Addr} (E : EnvOk K g M δ σ H) (hi : δ[i]? = some (.own (.lst ds0))) (hs : σ[i]? = some (some (.ref p))) (O : OwnAt K g M H p ds0 vs0) (r : Reps K M H ds vs) :
    EnvOk K g M (δ.set i (.own (.lst ds))) σ (upd H p (.lst vs)) ∧ Stp M δ σ H (δ.set i (.own (.lst ds))) (upd H p (.lst vs)) := by
  have gr : Grow M H M (upd H p (.lst vs)) := ⟨fun _ h => .inl h, fun b o n h _ => by
    rw [upd_ne (fun e => n (by rw [e]; exact O.m))]
    exact h, fun b h => upd_dom h, fun b o t h => upd_tp O.at_ nx_lst.2.2 t h⟩
  have kin : Kin δ (δ.set i (.own (.lst ds))) := fun j => by
    by_cases e : i = j
    · subst e
      exact .inr ⟨_, _, hi, by rw [List.getElem?_set_self (List.getElem?_eq_some_iff.mp hi).1]⟩
    · exact .inl (List.getElem?_set_ne e)
  refine ⟨⟨by rw [List.length_set, E.len], fun a m z => ?_, E.up, E.new, E.d0, ⟨fun b o h n t => ?_, fun b h => gr.n b (E.pres.2.1 b h), E.pres.2.2.upd O.at_ nx_lst nt_lst⟩, fun j c u h1 h2 => ?_, fun j k x y q h1 h2 h3 h4 => ?_, fun q hq => ?_⟩, gr, kin, fun b o h n _ => by
    rw [upd_ne fun e => n i _ hi (by rw [e]; exact hs)]
    exact h⟩
  · by_cases e : a = p
    · subst e
      rw [upd_same] at z
      cases z
    · rw [upd_ne e] at z
      exact E.dom a m z
  · have hb := E.pres.1 b o h n t
    rw [upd_ne]
    · exact hb
    · intro e
      subst e
      rcases O.from_ with z | z
      · exact n z
      · rw [h] at z
        cases z
  · rcases get_set h1 with ⟨e, e1, _⟩ | ⟨n, h1⟩
    · subst e e1
      rw [hs] at h2
      cases h2
      exact ⟨O.m, O.from_, vs, upd_same, r.grow gr⟩
    · have q := E.cell j c u h1 h2
      cases c with
      | emp => trivial
      | val d =>
        cases u with
        | none => exact q
        | some u => exact Rep.grow gr q
      | own d =>
        obtain ⟨q', ds', vs', e, h3, O'⟩ := E.own h1
        subst e
        rw [h2] at h3
        cases h3
        have nq : q' ≠ p := fun e => n (E.apart j i _ _ p h1 hi (e ▸ h2) hs)
        exact ⟨O'.m, O'.from_, vs', by rw [upd_ne nq]; exact O'.at_, O'.reps.grow gr⟩
  · have a1 : ∃ a, δ[j]? = some (.own a) := kin.own h1
    have a2 : ∃ a, δ[k]? = some (.own a) := kin.own h2
    obtain ⟨a, h1⟩ := a1
    obtain ⟨b, h2⟩ := a2
    exact E.apart j k a b q h1 h2 h3 h4
  · obtain ⟨e, h1, h2⟩ := E.ion q hq
    by_cases z : i = 0
    · subst z
      exact ⟨_, by rw [List.getElem?_set_self (List.getElem?_eq_some_iff.mp hi).1], h2⟩
    · exact ⟨e, by rw [List.getElem?_set_ne z]; exact h1, h2⟩
end
section
variable {X : Cx} {g : GX} {W : WX} {pos : Pos}
def gN (i : Nat) : DGt := fun d δ Q => slotOk i δ ∧ Q (δ.set i (.val d))
theorem dg_name {i : Nat} {x : Str} (h : PG X (.Name x pos) (gName i)) : DG X g (.Name x pos) [i] (gN i) := by
  refine ⟨h.imp fun v σ H Q q => ?_⟩
  obtain ⟨M, δ, d, Qd, E, r, ⟨so, hq⟩, k⟩ := q
  exact k _ _ hq (E.setVal r so) Tgt.one
def gn0 : DGs := fun ds δ Q => match ds with
  | [] => Q δ
  | _ :: _ => False
def gn1 (gt : DGt) (gs : DGs) : DGs := fun ds δ Q => match ds with
  | [] => False
  | d :: r => gt d δ fun δ1 => gs r δ1 Q
theorem dgs_nil : DGS X g [] [] gn0 := by
  refine ⟨pgs_nil.imp fun v σ H Q q => ?_⟩
  obtain ⟨M, δ, d, Qd, E, r, hq, k⟩ := q
  cases d with
  | nil =>
    have e : v = [] := r
    exact ⟨e, k δ σ hq E Tgt.refl⟩
  | cons d ds => exact False.elim hq
theorem dgs_cons {e : Expr} {es : List Expr} {ts us : List Nat} {gt : DGt} {gs : DGs} (h1 : DG X g e ts gt) (h2 : DGS X g es us gs)
    (hs : (assignEach (e :: es) X.env).map (·.2) = assign e X.env :: (assignEach es X.env).map (·.2) := by rfl) : DGS X g (e :: es) (ts ++ us) (gn1 gt gs) := by
  refine ⟨(pgs_cons h1.pg h2.pgs hs).imp fun v σ H Q q => ?_⟩
  obtain ⟨M, δ, d, Qd, E, r, hq, k⟩ := q
  cases d with
  | nil => exact False.elim hq
  | cons d ds =>
    obtain ⟨v1, vr, e1, r1, r2⟩ := r
    refine ⟨v1, vr, e1, M, δ, d, _, E, r1, hq, fun δ1 σ1 q1 E1 o1 => ?_⟩
    exact ⟨M, δ1, ds, Qd, E1, r2, q1, fun δ2 σ2 q2 E2 o2 => k δ2 σ2 q2 E2 (o1.trans o2)⟩
def onTup (P : List D → Prop) : D → Prop
  | .tup ds => P ds
  | _ => False
def onLst (P : List D → Prop) : D → Prop
  | .lst ds => P ds
  | _ => False
theorem tup_of {K : Fr} {M : Ad} {H : Hp} {P : List D → Prop} : ∀ {d : D} {v : V}, Rep K M H d v → onTup P d → ∃ ds a vs, d = .tup ds ∧ v = .ref a ∧ TupAt K M H a vs ∧ Reps K M H ds vs ∧ P ds
  | .tup ds, v, r, h => by
    obtain ⟨a, vs, e, t, q⟩ := r
    exact ⟨ds, a, vs, rfl, e, t, q, h⟩
  | .non, _, _, h => h.elim
  | .int _, _, _, h => h.elim
  | .str _, _, _, h => h.elim
  | .bl _, _, _, h => h.elim
  | .lst _, _, _, h => h.elim
  | .obj _ _ _, _, _, h => h.elim
  | .scr _, _, _, h => h.elim
  | .at _, _, _, h => h.elim
  | .dct _ _, _, _, h => h.elim
  | .dck _ _, _, _, h => h.elim
theorem lst_of {K : Fr} {M : Ad} {H : Hp} {P : List D → Prop} : ∀ {d : D} {v : V}, Rep K M H d v → onLst P d → ∃ ds a vs, d = .lst ds ∧ v = .ref a ∧ LstAt K M H a vs ∧ Reps K M H ds vs ∧ P ds
  | .lst ds, v, r, h => by
    obtain ⟨a, vs, e, t, q⟩ := r
    exact ⟨ds, a, vs, rfl, e, t, q, h⟩
  | .non, _, _, h => h.elim
  | .int _, _, _, h => h.elim
  | .str _, _, _, h => h.elim
  | .bl _, _, _, h => h.elim
  | .tup _, _, _, h => h.elim
  | .obj _ _ _, _, _, h => h.elim
  | .scr _, _, _, h => h.elim
  | .at _, _, _, h => h.elim
  | .dct _ _, _, _, h => h.elim
  | .dck _ _, _, _, h => h.elim
def gT (n : Nat) (gs : DGs) : DGt := fun d δ Q => onTup (fun ds => ds.length = n ∧ gs ds δ Q) d
theorem dg_tup {es : List Expr} {k : Nat} {ts : List Nat} {gs : DGs} {n : Nat} (hc : X.calm = true) (h : DGS X g es ts gs)
    (hn : (assignEach es X.env).length = n := by rfl) (hst : (assignEach es X.env).findIdx? (·.1) = none := by rfl) : DG X g (.Tuple es k pos) ts (gT n gs) := by
  refine ⟨(pg_tup hc h.pgs hn hst).imp fun v σ H Q q => ?_⟩
  obtain ⟨M, δ, d, Qd, E, r, hq, k⟩ := q
  obtain ⟨ds, a, vs, e, ev, t, rs, hl, hq⟩ := tup_of r hq
  exact ⟨a, vs, ev, t.sq, by rw [← rs.length]; exact hl, M, δ, ds, Qd, E, rs, hq, k⟩
def gL (n : Nat) (gs : DGs) : DGt := fun d δ Q => onLst (fun ds => ds.length = n ∧ gs ds δ Q) d
theorem dg_lst {es : List Expr} {k : Nat} {ts : List Nat} {gs : DGs} {n : Nat} (hc : X.calm = true) (h : DGS X g es ts gs)
    (hn : (assignEach es X.env).length = n := by rfl) (hst : (assignEach es X.env).findIdx? (·.1) = none := by rfl) : DG X g (.Tuple es k pos) ts (gL n gs) := by
  refine ⟨(pg_lst hc h.pgs hn hst).imp fun v σ H Q q => ?_⟩
  obtain ⟨M, δ, d, Qd, E, r, hq, k⟩ := q
  obtain ⟨ds, a, vs, e, ev, t, rs, hl, hq⟩ := lst_of r hq
  exact ⟨a, vs, ev, t.sq, by rw [← rs.length]; exact hl, M, δ, ds, Qd, E, rs, hq, k⟩
end
/-! ### statements -/
structure DK where
  nx : DEnv → Prop
  rt : Cell → DEnv → Prop
  bk : DEnv → Prop
  ct : DEnv → Prop
  ex : XD
abbrev DSt := DK → DEnv → Prop
/-- a value that is handed back: data, or a new list of the def's own -/
def RetOk (K : Fr) (g : GX) (M : Ad) (H : Hp) : Cell → V → Prop
  | .val d, v => Rep K M H d v
  | .own (.lst ds), v => ∃ p vs, v = .ref p ∧ g.H0 p = none ∧ M p ∧ H p = some (.lst vs) ∧ Reps K M H ds vs
  | _, _ => False
structure SOk (K : Fr) (g : GX) (W : WX) (M : Ad) (H : Hp) (T : Ends) (k : DK) : Prop where
  nx : ∀ M' δ σ H', k.nx δ → EnvOk K g M' δ σ H' → Grow M H M' H' → T.nx σ H'
  rt : ∀ M' c δ σ v H', k.rt c δ → EnvOk K g M' δ σ H' → RetOk K g M' H' c v → T.rt v H'
  bk : ∀ M' δ σ H', k.bk δ → EnvOk K g M' δ σ H' → Grow M H M' H' → T.bk σ H'
  ct : ∀ M' δ σ H', k.ct δ → EnvOk K g M' δ σ H' → Grow M H M' H' → T.ct σ H'
  ex : ∀ M' x ds δ cls dd σ H', k.ex x ds δ → EnvOk K g M' δ σ H' → Grow M H M' H' → ExcAt K M' H' x ds cls dd → W cls dd σ H'
theorem SOk.grow {K : Fr} {g : GX} {W : WX} {M M1 : Ad} {H H1 : Hp} {T : Ends} {k : DK} (s : SOk K g W M H T k) (r : Grow M H M1 H1) : SOk K g W M1 H1 T k :=
  ⟨fun M' δ σ H' h E q => s.nx M' δ σ H' h E (r.trans q), s.rt, fun M' δ σ H' h E q => s.bk M' δ σ H' h E (r.trans q), fun M' δ σ H' h E q => s.ct M' δ σ H' h E (r.trans q),
    fun M' x ds δ cls dd σ H' h E q => s.ex M' x ds δ cls dd σ H' h E (r.trans q)⟩
theorem SOk.exok {K : Fr} {g : GX} {W : WX} {M : Ad} {δ : DEnv} {σ : Sg} {H : Hp} {T : Ends} {k : DK} (s : SOk K g W M H T k) : ExOk K g W M δ σ H k.ex :=
  fun x ds δ' cls dd H' h E st ea => s.ex M x ds δ' cls dd σ H' h E st.g ea
def cS (K : Fr) (g : GX) (W : WX) (s : DSt) : TS := fun T σ H => ∃ M δ k, EnvOk K g M δ σ H ∧ s k δ ∧ SOk K g W M H T k
structure DS (X : Cx) (g : GX) (W : WX) (st : Stmt) (s : DSt) : Prop where
  ps : PS X st (cS X.K g W s)
structure DSS (X : Cx) (g : GX) (W : WX) (st : List Stmt) (s : DSt) : Prop where
  pss : PSs X st (cS X.K g W s)
section
variable {X : Cx} {g : GX} {W : WX} {pos : Pos} {st : Stmt} {rest : List Stmt} {s u : DSt} {e : Expr} {ee : DEx}
def nextD : DSt := fun k δ => k.nx δ
def seqD (s u : DSt) : DSt := fun k δ => s { k with nx := u k } δ
theorem dss_nil : DSS X g W [] nextD := by
  refine ⟨pss_nil.imp fun T σ H q => ?_⟩
  obtain ⟨M, δ, k, E, h, S⟩ := q
  exact S.nx M δ σ H h E (Grow.refl _ _)
theorem dss_one (h : DS X g W st s) : DSS X g W [st] s := ⟨pss_one h.ps⟩
theorem dss_cons (h1 : DS X g W st s) (h2 : DSS X g W rest u) : DSS X g W (st :: rest) (seqD s u) := by
  refine ⟨(pss_cons h1.ps h2.pss).imp fun T σ H q => ?_⟩
  obtain ⟨M, δ, k, E, h, S⟩ := q
  exact ⟨M, δ, _, E, h, fun M' δ' σ' H' h' E' g' => ⟨M', δ', k, E', h', S.grow g'⟩, S.rt, S.bk, S.ct, S.ex⟩
def neverS : DSt := fun _ _ => False
theorem ds_never : DS X g W st neverS := ⟨⟨fun _ _ _ _ _ _ h => by obtain ⟨_, _, _, _, z, _⟩ := h; exact False.elim z⟩⟩
theorem dss_never {sts : List Stmt} : DSS X g W sts neverS := ⟨⟨fun _ _ _ _ _ _ h => by obtain ⟨_, _, _, _, z, _⟩ := h; exact False.elim z⟩⟩
theorem ds_pass : DS X g W (.Pass pos) nextD := by
  refine ⟨ps_pass.imp fun T σ H q => ?_⟩
  obtain ⟨M, δ, k, E, h, S⟩ := q
  exact S.nx M δ σ H h E (Grow.refl _ _)
def breakD : DSt := fun k δ => k.bk δ
theorem ds_break : DS X g W (.Break pos) breakD := by
  refine ⟨ps_break.imp fun T σ H q => ?_⟩
  obtain ⟨M, δ, k, E, h, S⟩ := q
  exact S.bk M δ σ H h E (Grow.refl _ _)
def contD : DSt := fun k δ => k.ct δ
theorem ds_cont : DS X g W (.Continue pos) contD := by
  refine ⟨ps_continue.imp fun T σ H q => ?_⟩
  obtain ⟨M, δ, k, E, h, S⟩ := q
  exact S.ct M δ σ H h E (Grow.refl _ _)
def exprD (e : DEx) : DSt := fun k δ => e δ (fun _ δ1 => k.nx δ1) k.ex
theorem ds_expr (he : DE X g W e ee) (hs : swapsWith e none pos.line X.env = pure false := by rfl) : DS X g W (.Expr e pos) (exprD ee) := by
  refine ⟨(ps_expr he.pe hs).imp fun T σ H q => ?_⟩
  obtain ⟨M, δ, k, E, h, S⟩ := q
  exact ⟨M, δ, _, _, E, h, fun d δ1 v H1 h1 E1 g1 _ => S.nx M δ1 σ H1 h1 E1 g1.g, S.exok⟩
def retD (e : DEx) : DSt := fun k δ => e δ (fun d δ1 => k.rt (.val d) δ1) k.ex
theorem ds_ret (he : DE X g W e ee) : DS X g W (.Return (some e) pos) (retD ee) := by
  refine ⟨(ps_ret he.pe).imp fun T σ H q => ?_⟩
  obtain ⟨M, δ, k, E, h, S⟩ := q
  exact ⟨M, δ, _, _, E, h, fun d δ1 v H1 h1 E1 g1 r1 => S.rt M (.val d) δ1 σ v H1 h1 E1 r1, S.exok⟩
def retND : DSt := fun k δ => k.rt (.val .non) δ
theorem ds_retN : DS X g W (.Return none pos) retND := by
  refine ⟨ps_retN.imp fun T σ H q => ?_⟩
  obtain ⟨M, δ, k, E, h, S⟩ := q
  exact S.rt M (.val .non) δ σ .non H h E rfl
def ifS (c : DTx) (s u : DSt) : DSt := fun k δ => c δ (fun b δ1 => if b = true then s k δ1 else u k δ1) k.ex
theorem ds_if {c : Expr} {a b : List Stmt} {tc : DTx} (hc : DT X g W c tc) (ha : DSS X g W a s) (hb : DSS X g W b u) : DS X g W (.If c a b pos) (ifS tc s u) := by
  refine ⟨(ps_if hc.pt ha.pss hb.pss).imp fun T σ H q => ?_⟩
  obtain ⟨M, δ, k, E, h, S⟩ := q
  refine ⟨M, δ, _, _, E, h, fun bb δ1 H1 h1 E1 g1 => ?_, S.exok⟩
  by_cases hb : bb = true
  · rw [if_pos hb] at h1 ⊢
    exact ⟨M, δ1, k, E1, h1, S.grow g1.g⟩
  · rw [if_neg hb] at h1 ⊢
    exact ⟨M, δ1, k, E1, h1, S.grow g1.g⟩
def asgD (e : DEx) (gt : DGt) : DSt := fun k δ => e δ (fun d δ1 => gt d δ1 k.nx) k.ex
theorem asg_sound {K : Fr} {ts : List Nat} {gt : DGt} {T : Ends} {σ : Sg} {H : Hp} (q : cS K g W (asgD ee gt) T σ H) : tAsg (cE K g W ee) (cG K g ts gt) T σ H := by
  obtain ⟨M, δ, k, E, h, S⟩ := q
  exact ⟨M, δ, _, _, E, h, fun d δ1 v H1 h1 E1 g1 r1 => ⟨M, δ1, d, _, E1, r1, h1, fun δ2 σ2 q2 E2 _ => S.nx M δ2 σ2 H1 q2 E2 g1.g⟩, S.exok⟩
theorem ds_asg {tg : Expr} {ts : List Nat} {gt : DGt} (he : DE X g W e ee) (hg : DG X g tg ts gt) (hs : swapsWithSole [tg] e pos.line X.env = pure false := by rfl) (hw : swappedStores [tg] e X.env = pure none := by rfl)
    (h1 : (assignEach [tg] X.env).map (·.2) = [assign tg X.env] := by rfl) : DS X g W (.Assign [tg] e pos) (asgD ee gt) :=
  ⟨(ps_asg he.pe hg.pg hs hw h1).imp fun _ _ _ q => asg_sound q⟩
/-- name = value -/
theorem ds_set {i : Nat} {x : Str} {pos' : Pos} (he : DE X g W e ee) (hN : X.N.Nodup) (hi : X.N[i]? = some x) (hx : Loc X.env.scope x) (hs : swapsWith e (some (.Name x pos')) pos.line X.env = pure false := by rfl)
    (hf : X.fn x = true ∨ X.env.scope.names.lookup x = some .local := by first | exact .inl rfl | exact .inr rfl | assumption) : DS X g W (.Assign [.Name x pos'] e pos) (asgD ee (gN i)) := by
  refine ⟨(ps_set hN hi hx he.pe hs hf).imp fun T σ H q => ?_⟩
  have z : tAsg (cE X.K g W ee) (cG X.K g [i] (gN i)) T σ H := asg_sound q
  obtain ⟨M, δ, Qd, Xd, E, h, k, kx⟩ := z
  refine ⟨M, δ, Qd, Xd, E, h, fun d δ1 v H1 h1 E1 g1 r1 => ?_, kx⟩
  obtain ⟨M2, δ2, d2, Q2, E2, r2, ⟨so, hq⟩, k2⟩ := k d δ1 v H1 h1 E1 g1 r1
  exact k2 _ _ hq (E2.setVal r2 so) Tgt.one
end
end Dn

set_option Elab.async false
set_option linter.all false
set_option maxRecDepth 100000
set_option maxHeartbeats 4000000
namespace Dn
open PySem PySem.Spec PyProof.Rows L2
/-! ### what is walked -/
/-- J goes through things that stand for ds, as long as what stands stays -/
structure Wk (K : Fr) (M : Ad) (J : It) (H : Hp) (ds : List D) : Prop where
  go : ∀ M1 H1, Grow M H M1 H1 → (∀ a, M1 a → H1 a ≠ none) → ∀ (i : Nat) (d : D), ds[i]? = some d → J.go i H1 ∧ ∀ x H2, J.yld i H1 x H2 → Same H1 H2 ∧ Rep K M1 H2 d x
  stop : ∀ M1 H1, Grow M H M1 H1 → ∀ i : Nat, ds.length ≤ i → J.stop i H1
abbrev DIx := DAx
def cI (K : Fr) (g : GX) (W : WX) (it : DIx) : TI := fun σ H R => ∃ M δ Qd Xd, EnvOk K g M δ σ H ∧ it δ Qd Xd ∧
  (∀ ds δ' H' J, Qd ds δ' → EnvOk K g M δ' σ H' → Stp M δ σ H δ' H' → Wk K M J H' ds → R J H') ∧ ExOk K g W M δ σ H Xd
structure DI (X : Cx) (g : GX) (W : WX) (tg iter : Expr) (it : DIx) : Prop where
  pi : PI X tg iter (cI X.K g W it)
section
variable {K : Fr} {M : Ad} {H : Hp}
theorem wk_list {a : Addr} {vs : List V} {ds : List D} (l : LstAt K M H a vs) (r : Reps K M H ds vs) : Wk K M (Itl K a) H ds where
  go := fun M1 H1 g _ i d e => by
    obtain ⟨x, hx, rx⟩ := r.get e
    exact ⟨⟨vs, x, (l.grow g).sq, hx⟩, fun y H2 ⟨e2, hy⟩ => by
      subst e2
      have := hy vs (l.grow g).sq
      rw [hx] at this
      cases this
      exact ⟨Same.refl _, rx.grow g⟩⟩
  stop := fun M1 H1 g i hi => ⟨vs, (l.grow g).sq, by rw [← r.length]; exact hi⟩
theorem wk_tup {a : Addr} {vs : List V} {ds : List D} (l : TupAt K M H a vs) (r : Reps K M H ds vs) : Wk K M (Itt K a) H ds where
  go := fun M1 H1 g _ i d e => by
    obtain ⟨x, hx, rx⟩ := r.get e
    exact ⟨⟨vs, x, (l.grow g).sq, hx⟩, fun y H2 ⟨e2, hy⟩ => by
      subst e2
      have := hy vs (l.grow g).sq
      rw [hx] at this
      cases this
      exact ⟨Same.refl _, rx.grow g⟩⟩
  stop := fun M1 H1 g i hi => ⟨vs, (l.grow g).sq, by rw [← r.length]; exact hi⟩
def rngD (lo : Int) (n : Nat) : List D := (List.range n).map fun i => .int (lo + (i : Nat))
theorem wk_range {lo : Int} {n : Nat} : Wk K M (Itr lo n) H (rngD lo n) where
  go := fun M1 H1 g _ i d e => by
    unfold rngD at e
    rw [List.getElem?_map] at e
    by_cases hi : i < n
    · rw [List.getElem?_range hi] at e
      cases e
      exact ⟨hi, fun y H2 ⟨e2, hy⟩ => by subst e2 hy; exact ⟨Same.refl _, rfl⟩⟩
    · rw [List.getElem?_eq_none (by simpa using hi)] at e
      cases e
  stop := fun M1 H1 g i hi => by
    unfold rngD at hi
    rw [List.length_map, List.length_range] at hi
    exact hi
def strD (x : Str) : List D := x.cps.toList.map fun c => .str ⟨#[c]⟩
theorem wk_str {x : Str} : Wk K M (Its x) H (strD x) where
  go := fun M1 H1 g _ i d e => by
    unfold strD at e
    rw [List.getElem?_map, Array.getElem?_toList] at e
    cases q : x.cps[i]? with
    | none => rw [q] at e; cases e
    | some c =>
      rw [q] at e
      cases e
      exact ⟨(Array.getElem?_eq_some_iff.mp q).1, fun y H2 ⟨e2, c', hc, hy⟩ => by
        subst e2 hy
        rw [q] at hc
        cases hc
        exact ⟨Same.refl _, rfl⟩⟩
  stop := fun M1 H1 g i hi => by
    unfold strD at hi
    rw [List.length_map, Array.length_toList] at hi
    exact hi
/-- a new pair -/
theorem rep_pair {M1 : Ad} {H1 : Hp} {T : Addr} {x y : V} {d e : D} (dom : ∀ a, M1 a → H1 a ≠ none) (hT : H1 T = none) (r1 : Rep K M1 H1 d x) (r2 : Rep K M1 H1 e y) :
    Same H1 (upd H1 T (.tup [x, y])) ∧ Rep K M1 (upd H1 T (.tup [x, y])) (.tup [d, e]) (.ref T) := by
  have s := same_upd (o := .tup [x, y]) hT
  exact ⟨s, T, _, rfl, .inl (.inl upd_same), x, _, rfl, r1.grow (Grow.of_same s), y, _, rfl, r2.grow (Grow.of_same s), rfl⟩
def enumD (ds : List D) : List D := (ds.zipIdx).map fun p => .tup [.int (p.2 : Nat), p.1]
theorem enumD_get {ds : List D} {i : Nat} {d : D} (h : (enumD ds)[i]? = some d) : ∃ e, ds[i]? = some e ∧ d = .tup [.int (i : Nat), e] := by
  unfold enumD at h
  rw [List.getElem?_map, List.getElem?_zipIdx] at h
  cases q : ds[i]? with
  | none => rw [q] at h; cases h
  | some e =>
    rw [q] at h
    simp only [Option.map_some, Option.some.injEq, Nat.zero_add] at h
    exact ⟨e, rfl, h.symm⟩
theorem enumD_length (ds : List D) : (enumD ds).length = ds.length := by simp [enumD]
theorem wk_enum {a : Addr} {vs : List V} {ds : List D} (l : LstAt K M H a vs) (r : Reps K M H ds vs) : Wk K M (Ite K a) H (enumD ds) where
  go := fun M1 H1 g dom i d e => by
    obtain ⟨d0, e0, ed⟩ := enumD_get e
    obtain ⟨x, hx, rx⟩ := r.get e0
    refine ⟨⟨vs, x, (l.grow g).sq, hx⟩, fun y H2 ⟨T, x', ey, hT, eH, hy⟩ => ?_⟩
    have := hy vs (l.grow g).sq
    rw [hx] at this
    cases this
    subst ey eH ed
    exact rep_pair dom hT rfl (rx.grow g)
  stop := fun M1 H1 g i hi => ⟨vs, (l.grow g).sq, by rw [← r.length, ← enumD_length ds]; exact hi⟩
def zipD (ds es : List D) : List D := (ds.zip es).map fun p => .tup [p.1, p.2]
theorem zipD_get {ds es : List D} {i : Nat} {d : D} (h : (zipD ds es)[i]? = some d) : ∃ x y, ds[i]? = some x ∧ es[i]? = some y ∧ d = .tup [x, y] := by
  unfold zipD at h
  rw [List.getElem?_map] at h
  cases q : (ds.zip es)[i]? with
  | none => rw [q] at h; cases h
  | some p =>
    rw [q] at h
    obtain ⟨h1, h2⟩ := List.getElem?_zip_eq_some.mp q
    simp only [Option.map_some, Option.some.injEq] at h
    exact ⟨p.1, p.2, h1, h2, h.symm⟩
theorem zipD_length (ds es : List D) : (zipD ds es).length = min ds.length es.length := by simp [zipD]
theorem wk_zipL {a b : Addr} {vs us : List V} {ds es : List D} (l : LstAt K M H a vs) (r : Reps K M H ds vs) (l2 : LstAt K M H b us) (r2 : Reps K M H es us) : Wk K M (Itz K a b) H (zipD ds es) where
  go := fun M1 H1 g dom i d e => by
    obtain ⟨d1, d2, e1, e2, ed⟩ := zipD_get e
    obtain ⟨x, hx, rx⟩ := r.get e1
    obtain ⟨y, hy, ry⟩ := r2.get e2
    refine ⟨⟨vs, us, x, y, (l.grow g).sq, (l2.grow g).sq, hx, hy⟩, fun v H2 ⟨T, x', y', ev, hT, eH, h1, h2⟩ => ?_⟩
    have q1 := h1 vs (l.grow g).sq
    have q2 := h2 us (l2.grow g).sq
    rw [hx] at q1
    rw [hy] at q2
    cases q1
    cases q2
    subst ev eH ed
    exact rep_pair dom hT (rx.grow g) (ry.grow g)
  stop := fun M1 H1 g i hi => ⟨vs, us, (l.grow g).sq, (l2.grow g).sq, by
    rw [zipD_length] at hi
    rw [← r.length, ← r2.length]
    omega⟩
theorem wk_zipT {a b : Addr} {vs us : List V} {ds es : List D} (l : TupAt K M H a vs) (r : Reps K M H ds vs) (l2 : TupAt K M H b us) (r2 : Reps K M H es us) : Wk K M (RZ.ItzT K a b) H (zipD ds es) where
  go := fun M1 H1 g dom i d e => by
    obtain ⟨d1, d2, e1, e2, ed⟩ := zipD_get e
    obtain ⟨x, hx, rx⟩ := r.get e1
    obtain ⟨y, hy, ry⟩ := r2.get e2
    refine ⟨⟨vs, us, x, y, (l.grow g).sq, (l2.grow g).sq, hx, hy⟩, fun v H2 ⟨T, x', y', ev, hT, eH, h1, h2⟩ => ?_⟩
    have q1 := h1 vs (l.grow g).sq
    have q2 := h2 us (l2.grow g).sq
    rw [hx] at q1
    rw [hy] at q2
    cases q1
    cases q2
    subst ev eH ed
    exact rep_pair dom hT (rx.grow g) (ry.grow g)
  stop := fun M1 H1 g i hi => ⟨vs, us, (l.grow g).sq, (l2.grow g).sq, by
    rw [zipD_length] at hi
    rw [← r.length, ← r2.length]
    omega⟩
end
section
variable {X : Cx} {g : GX} {W : WX} {tg e e2 : Expr} {ee ee2 : DEx} {pos p : Pos}
def ilD (e : DEx) : DIx := fun δ Q Xd => e δ (fun d δ1 => onLst (fun ds => Q ds δ1) d) Xd
def itD (e : DEx) : DIx := fun δ Q Xd => e δ (fun d δ1 => onTup (fun ds => Q ds δ1) d) Xd
theorem di_list (he : DE X g W e ee) : DI X g W tg e (ilD ee) := by
  refine ⟨(pi_list he.pe).imp fun σ H R q => ?_⟩
  obtain ⟨M, δ, Qd, Xd, E, h, k, kx⟩ := q
  refine ⟨M, δ, _, Xd, E, h, fun d δ1 v H1 h1 E1 g1 r1 => ?_, kx⟩
  obtain ⟨ds, a, vs, e, ev, l, rs, hq⟩ := lst_of r1 h1
  exact ⟨a, ev, ⟨vs, l.sq⟩, k ds δ1 H1 _ hq E1 g1 (wk_list l rs)⟩
theorem di_tup (he : DE X g W e ee) : DI X g W tg e (itD ee) := by
  refine ⟨(pi_tup he.pe).imp fun σ H R q => ?_⟩
  obtain ⟨M, δ, Qd, Xd, E, h, k, kx⟩ := q
  refine ⟨M, δ, _, Xd, E, h, fun d δ1 v H1 h1 E1 g1 r1 => ?_, kx⟩
  obtain ⟨ds, a, vs, e, ev, l, rs, hq⟩ := tup_of r1 h1
  exact ⟨a, ev, ⟨vs, l.sq⟩, k ds δ1 H1 _ hq E1 g1 (wk_tup l rs)⟩
def onI (P : Int → Prop) : D → Prop
  | .int i => P i
  | _ => False
def onS (P : Str → Prop) : D → Prop
  | .str i => P i
  | _ => False
theorem int_of {K : Fr} {M : Ad} {H : Hp} {P : Int → Prop} : ∀ {d : D} {v : V}, Rep K M H d v → onI P d → ∃ i, v = .int i ∧ P i
  | .int b, v, r, h => ⟨b, r, h⟩
  | .non, _, _, h => h.elim
  | .bl _, _, _, h => h.elim
  | .str _, _, _, h => h.elim
  | .tup _, _, _, h => h.elim
  | .lst _, _, _, h => h.elim
  | .obj _ _ _, _, _, h => h.elim
  | .scr _, _, _, h => h.elim
  | .at _, _, _, h => h.elim
  | .dct _ _, _, _, h => h.elim
  | .dck _ _, _, _, h => h.elim
theorem str_of {K : Fr} {M : Ad} {H : Hp} {P : Str → Prop} : ∀ {d : D} {v : V}, Rep K M H d v → onS P d → ∃ i, v = .str i ∧ P i
  | .str b, v, r, h => ⟨b, r, h⟩
  | .non, _, _, h => h.elim
  | .bl _, _, _, h => h.elim
  | .int _, _, _, h => h.elim
  | .tup _, _, _, h => h.elim
  | .lst _, _, _, h => h.elim
  | .obj _ _ _, _, _, h => h.elim
  | .scr _, _, _, h => h.elim
  | .at _, _, _, h => h.elim
  | .dct _ _, _, _, h => h.elim
  | .dck _ _, _, _, h => h.elim
def isD (e : DEx) : DIx := fun δ Q Xd => e δ (fun d δ1 => onS (fun x => Q (strD x) δ1) d) Xd
theorem di_str (he : DE X g W e ee) : DI X g W tg e (isD ee) := by
  refine ⟨(pi_str he.pe).imp fun σ H R q => ?_⟩
  obtain ⟨M, δ, Qd, Xd, E, h, k, kx⟩ := q
  refine ⟨M, δ, _, Xd, E, h, fun d δ1 v H1 h1 E1 g1 r1 => ?_, kx⟩
  obtain ⟨x, ev, hq⟩ := str_of r1 h1
  exact ⟨x, ev, k _ δ1 H1 _ hq E1 g1 wk_str⟩
def small (i : Int) : Prop := -1000000000000 ≤ i ∧ i ≤ 1000000000000
theorem small.lo {i : Int} (h : small i) : -(2 ^ 62) ≤ i := Int.le_trans (by decide) h.1
theorem small.hi {i : Int} (h : small i) : i < 2 ^ 62 := Int.lt_of_le_of_lt h.2 (by decide)
def on1 (P : D → Prop) : List D → Prop
  | [d] => P d
  | _ => False
def on2 (P : D → D → Prop) : List D → Prop
  | [d, e] => P d e
  | _ => False
theorem one_of {K : Fr} {M : Ad} {H : Hp} {P : D → Prop} : ∀ {ds : List D} {vs : List V}, Reps K M H ds vs → on1 P ds → ∃ d v, ds = [d] ∧ vs = [v] ∧ Rep K M H d v ∧ P d
  | [d], vs, r, h => by
    obtain ⟨v, w, e, r1, e2⟩ := r
    have e2 : w = [] := e2
    subst e2
    exact ⟨d, v, rfl, e, r1, h⟩
  | [], _, _, h => h.elim
  | _ :: _ :: _, _, _, h => h.elim
theorem two_of {K : Fr} {M : Ad} {H : Hp} {P : D → D → Prop} : ∀ {ds : List D} {vs : List V}, Reps K M H ds vs → on2 P ds → ∃ d e v w, ds = [d, e] ∧ vs = [v, w] ∧ Rep K M H d v ∧ Rep K M H e w ∧ P d e
  | [d, e], vs, r, h => by
    obtain ⟨v, w, e1, r1, u, w2, e2, r2, e3⟩ := r
    have e3 : w2 = [] := e3
    subst e3 e2
    exact ⟨d, e, v, u, rfl, e1, r1, r2, h⟩
  | [], _, _, h => h.elim
  | [_], _, _, h => h.elim
  | _ :: _ :: _ :: _, _, _, h => h.elim
def irD (as : DAx) : DIx := fun δ Q Xd => as δ (fun ds δ1 => on1 (onI fun n => small n ∧ Q (rngD 0 n.toNat) δ1) ds) Xd
theorem di_range1 {as : DAx} (hg : Gl X "range") (hm : X.mg "range" = none) (ha : DA X g W [e] as) (hs : starEach [e] X.env = [(false, eval e X.env)] := by rfl) : DI X g W tg (.Call (.Name "range" p) [e] [] pos) (irD as) := by
  refine ⟨(pi_range1 hg hm ha.pa hs).imp fun σ H R q => ?_⟩
  obtain ⟨M, δ, Qd, Xd, E, h, k, kx⟩ := q
  refine ⟨M, δ, _, Xd, E, h, fun ds δ1 vs H1 h1 E1 g1 r1 => ?_, kx⟩
  obtain ⟨d, v, _, ev, r2, h2⟩ := one_of r1 h1
  obtain ⟨n, en, sm, hq⟩ := int_of r2 h2
  exact ⟨n, by rw [ev, en], sm.lo, sm.hi, k _ δ1 H1 _ hq E1 g1 wk_range⟩
def ir2D (as : DAx) : DIx := fun δ Q Xd => as δ (fun ds δ1 => on2 (fun d e => onI (fun m => onI (fun n => small m ∧ small n ∧ Q (rngD m (n - m).toNat) δ1) e) d) ds) Xd
theorem di_range2 {as : DAx} (hg : Gl X "range") (hm : X.mg "range" = none) (ha : DA X g W [e, e2] as) (hs : starEach [e, e2] X.env = [(false, eval e X.env), (false, eval e2 X.env)] := by rfl) (hs2 : starEach [e2] X.env = [(false, eval e2 X.env)] := by rfl) :
    DI X g W tg (.Call (.Name "range" p) [e, e2] [] pos) (ir2D as) := by
  refine ⟨(pi_range2 hg hm ha.pa hs hs2).imp fun σ H R q => ?_⟩
  obtain ⟨M, δ, Qd, Xd, E, h, k, kx⟩ := q
  refine ⟨M, δ, _, Xd, E, h, fun ds δ1 vs H1 h1 E1 g1 r1 => ?_, kx⟩
  obtain ⟨d, d2, v, w, _, ev, r2, r3, h2⟩ := two_of r1 h1
  obtain ⟨m, em, h3⟩ := int_of r2 h2
  obtain ⟨n, en, sm, sn, hq⟩ := int_of r3 h3
  exact ⟨m, n, by rw [ev, em, en], ⟨sm.lo, sm.hi, sn.lo, sn.hi⟩, k _ δ1 H1 _ hq E1 g1 wk_range⟩
def ieD (as : DAx) : DIx := fun δ Q Xd => as δ (fun ds δ1 => on1 (onLst fun es => Q (enumD es) δ1) ds) Xd
theorem di_enumL {as : DAx} {elts : List Expr} {kk : Nat} {tpos : Pos} (hg : Gl X "enumerate") (hm : X.mg "enumerate" = none) (ha : DA X g W [e] as) (hs : starEach [e] X.env = [(false, eval e X.env)] := by rfl) :
    DI X g W (.Tuple elts kk tpos) (.Call (.Name "enumerate" p) [e] [] pos) (ieD as) := by
  refine ⟨(pi_enum hg hm ha.pa hs).imp fun σ H R q => ?_⟩
  obtain ⟨M, δ, Qd, Xd, E, h, k, kx⟩ := q
  refine ⟨M, δ, _, Xd, E, h, fun ds δ1 vs H1 h1 E1 g1 r1 => ?_, kx⟩
  obtain ⟨d, v, _, ev, r2, h2⟩ := one_of r1 h1
  obtain ⟨es, a, us, _, ea, l, rs, hq⟩ := lst_of r2 h2
  exact ⟨a, us, by rw [ev, ea], l.sq, k _ δ1 H1 _ hq E1 g1 (wk_enum l rs)⟩
/-- zip of two lists, or of two tuples -/
def izD (as : DAx) : DIx := fun δ Q Xd => as δ (fun ds δ1 => on2 (fun d e => onLst (fun xs => onLst (fun ys => Q (zipD xs ys) δ1) e) d ∨ onTup (fun xs => onTup (fun ys => Q (zipD xs ys) δ1) e) d) ds) Xd
theorem di_zip {as : DAx} {elts : List Expr} {kk : Nat} {tpos : Pos} (h : ∀ ta, PA X [e, e2] ta → PI X (.Tuple elts kk tpos) (.Call (.Name "zip" p) [e, e2] [] pos) (RZ.iZipA X.K ta)) (ha : DA X g W [e, e2] as) :
    DI X g W (.Tuple elts kk tpos) (.Call (.Name "zip" p) [e, e2] [] pos) (izD as) := by
  refine ⟨(h _ ha.pa).imp fun σ H R q => ?_⟩
  obtain ⟨M, δ, Qd, Xd, E, h, k, kx⟩ := q
  refine ⟨M, δ, _, Xd, E, h, fun ds δ1 vs H1 h1 E1 g1 r1 => ?_, kx⟩
  obtain ⟨d, d2, v, w, _, ev, r2, r3, h2⟩ := two_of r1 h1
  rcases h2 with h2 | h2
  · obtain ⟨xs, a, us, _, ea, l, rs, h3⟩ := lst_of r2 h2
    obtain ⟨ys, b, ws, _, eb, l2, rs2, hq⟩ := lst_of r3 h3
    exact ⟨a, b, us, ws, by rw [ev, ea, eb], .inl ⟨l.sq, l2.sq, k _ δ1 H1 _ hq E1 g1 (wk_zipL l rs l2 rs2)⟩⟩
  · obtain ⟨xs, a, us, _, ea, l, rs, h3⟩ := tup_of r2 h2
    obtain ⟨ys, b, ws, _, eb, l2, rs2, hq⟩ := tup_of r3 h3
    exact ⟨a, b, us, ws, by rw [ev, ea, eb], .inr ⟨l.sq, l2.sq, k _ δ1 H1 _ hq E1 g1 (wk_zipT l rs l2 rs2)⟩⟩
/-! ### for -/
def forL (gt : DGt) (s : DSt) (k : DK) : List D → DEnv → Prop
  | [], δ => k.nx δ
  | d :: ds, δ => gt d δ fun δ1 => s { k with nx := forL gt s k ds, ct := forL gt s k ds, bk := k.nx } δ1
def forD (it : DIx) (gt : DGt) (s : DSt) : DSt := fun k δ => it δ (fun ds δ1 => forL gt s k ds δ1) k.ex
theorem ds_for {iter : Expr} {body : List Stmt} {it : DIx} {ts : List Nat} {gt : DGt} {s : DSt} (hp : PassesOwn (model X.prog X.w) X.A X.env X.xe) (hc : X.calm = true) (hi : DI X g W tg iter it) (hg : DG X g tg ts gt) (hb : DSS X g W body s)
    (hs : ∀ x, foldedSetIterable iter X.env x = pure x := by intro _; rfl) : DS X g W (.For tg iter body [] pos) (forD it gt s) := by
  refine ⟨(ps_for hp hc hi.pi hg.pg hb.pss hs).imp fun T σ H q => ?_⟩
  obtain ⟨M, δ, k, E, h, S⟩ := q
  refine ⟨M, δ, _, _, E, h, fun ds δ1 H1 J h1 E1 g1 wk => ?_, S.exok⟩
  refine ⟨fun i m σ' H' => ∃ M' δ', EnvOk X.K g M' δ' σ' H' ∧ Grow M H1 M' H' ∧ forL gt s k (ds.drop i) δ' ∧ m = ds.length - i, ⟨ds.length, M, δ1, E1, Grow.refl _ _, h1, rfl⟩, ?_⟩
  rintro i m σ2 H2 ⟨M2, δ2, E2, g2, h2, rfl⟩
  cases e : ds[i]? with
  | none =>
    have hi : ds.length ≤ i := List.getElem?_eq_none_iff.mp e
    refine .inl ⟨wk.stop M2 H2 g2 i hi, ?_⟩
    rw [List.drop_eq_nil_of_le hi] at h2
    exact S.nx M2 δ2 σ2 H2 h2 E2 (g1.g.trans g2)
  | some d =>
    have hi : i < ds.length := (List.getElem?_eq_some_iff.mp e).1
    have ed : ds.drop i = d :: ds.drop (i + 1) := by
      rw [List.drop_eq_getElem_cons hi, (List.getElem?_eq_some_iff.mp e).2]
    obtain ⟨hgo, hy⟩ := wk.go M2 H2 g2 E2.dom i d e
    rw [ed] at h2
    refine .inr ⟨hgo, fun σ' H' => ∃ M' δ', EnvOk X.K g M' δ' σ' H' ∧ Grow M H1 M' H' ∧ forL gt s k (ds.drop (i + 1)) δ', fun σ' H' ⟨M', δ', a, b, c⟩ => ⟨ds.length - (i + 1), by omega, M', δ', a, b, c, rfl⟩, fun x H3 yx => ?_⟩
    obtain ⟨s3, r3⟩ := hy x H3 yx
    refine ⟨M2, δ2, d, _, E2.same s3, r3, h2, fun δ4 σ4 h4 E4 _ => ?_⟩
    have g4 : Grow M H1 M2 H3 := g2.trans (Grow.of_same s3)
    refine ⟨M2, δ4, _, E4, h4, fun M' δ' σ' H' a b c => ⟨M', δ', b, g4.trans c, a⟩, S.rt, fun M' δ' σ' H' a b c => S.nx M' δ' σ' H' a b ((g1.g.trans g4).trans c), fun M' δ' σ' H' a b c => ⟨M', δ', b, g4.trans c, a⟩,
      fun M' x ds δ' cls dd σ' H' a b c => S.ex M' x ds δ' cls dd σ' H' a b ((g1.g.trans g4).trans c)⟩
end
end Dn

set_option Elab.async false
set_option linter.all false
set_option maxRecDepth 100000
set_option maxHeartbeats 4000000
namespace Dn
open PySem PySem.Spec PyProof.Rows L2
/-! ### new lists -/
abbrev DFx := DAx
def cF (K : Fr) (g : GX) (W : WX) (e : DFx) : TE := fun σ H Q => ∃ M δ Qd Xd, EnvOk K g M δ σ H ∧ e δ Qd Xd ∧
  (∀ ds δ' p vs H', Qd ds δ' → EnvOk K g M δ' σ H' → EnvOk K g (M.and p) δ' σ H' → Stp M δ σ H δ' H' → H p = none → H' p = some (.lst vs) → Reps K (M.and p) H' ds vs → Q (.ref p) H') ∧ ExOk K g W M δ σ H Xd
structure DF (X : Cx) (g : GX) (W : WX) (exp : Expr) (e : DFx) : Prop where
  pe : PE X exp (cF X.K g W e)
def frD (e : DFx) : DEx := fun δ Q Xd => e δ (fun ds δ1 => Q (.lst ds) δ1) Xd
section
variable {X : Cx} {g : GX} {W : WX} {exp : Expr} {pos : Pos}
theorem DF.de {e : DFx} (h : DF X g W exp e) : DE X g W exp (frD e) := by
  refine ⟨h.pe.imp fun σ H Q q => ?_⟩
  obtain ⟨M, δ, Qd, Xd, E, he, k, kx⟩ := q
  exact ⟨M, δ, _, Xd, E, he, fun ds δ' p vs H' h1 E1 E2 st hp hv r => k (.lst ds) δ' (.ref p) H' h1 E1 st ⟨p, vs, rfl, ⟨fun m => E.dom p m hp, hv⟩, r.less fun a m => .inl m⟩, kx⟩
/-- the end of what lays one new list -/
theorem new_list {K : Fr} {M : Ad} {δ0 δ : DEnv} {σ : Sg} {H0 H : Hp} {Qd : List D → DEnv → Prop} {Q : VK} {ds : List D} {vs : List V} {p : Addr} (E0 : EnvOk K g M δ0 σ H0) (E : EnvOk K g M δ σ H) (st : Stp M δ0 σ H0 δ H) (hq : Qd ds δ)
    (r : Reps K M H ds vs) (hp : H p = none)
    (k : ∀ ds δ' p vs H', Qd ds δ' → EnvOk K g M δ' σ H' → EnvOk K g (M.and p) δ' σ H' → Stp M δ0 σ H0 δ' H' → H0 p = none → H' p = some (.lst vs) → Reps K (M.and p) H' ds vs → Q (.ref p) H') : Q (.ref p) (upd H p (.lst vs)) := by
  have s := same_upd (o := .lst vs) hp
  have h0 : H0 p = none := by
    cases e : H0 p with
    | none => rfl
    | some o =>
      exact absurd hp (st.g.n p (some_ne e))
  exact k ds δ p vs _ hq (E.same s) (E.and hp) (st.trans (Stp.same s)) h0 upd_same (r.grow (Grow.and hp))
def lsF (as : DAx) : DFx := fun δ Q Xd => as δ (fun ds δ1 => few ds.length ∧ Q ds δ1) Xd
theorem df_lst {es : List Expr} {as : DAx} (hs : DA X g W es as) : DF X g W (.List es pos) (lsF as) := by
  refine ⟨(pe_lst hs.pa).imp fun σ H Q q => ?_⟩
  obtain ⟨M, δ, Qd, Xd, E, he, k, kx⟩ := q
  exact ⟨M, δ, _, Xd, E, he, fun ds δ1 vs H1 ⟨hf, h1⟩ E1 g1 r1 => ⟨by rw [← r1.length]; exact few_line hf, fun p hp => new_list E E1 g1 h1 r1 hp k⟩, kx⟩
/-! ### comprehensions -/
def wipeD (δ : DEnv) : List Nat → DEnv
  | [] => δ
  | v :: vs => (wipeD δ vs).set v .emp
def unw (δ δ2 : DEnv) : List Nat → DEnv
  | [] => δ2
  | v :: vs => (unw δ δ2 vs).set v (δ.getD v .emp)
def noOwn (δ : DEnv) : List Nat → Prop
  | [] => True
  | v :: vs => (match (δ[v]? : Option Cell) with
    | some (Cell.own _) => False
    | _ => True) ∧ noOwn δ vs
theorem noOwn.at {δ : DEnv} : ∀ {vs : List Nat}, noOwn δ vs → ∀ i ∈ vs, ∀ d, δ[i]? ≠ some (.own d)
  | [], _, i, hi, _ => by cases hi
  | v :: vs, h, i, hi, d => by
    obtain ⟨h1, h2⟩ := h
    rcases List.mem_cons.mp hi with e | hi
    · subst e
      intro q
      rw [q] at h1
      exact h1
    · exact noOwn.at h2 i hi d
theorem noOwn.of {δ : DEnv} : ∀ {vs : List Nat}, (∀ i ∈ vs, ∀ d, δ[i]? ≠ some (.own d)) → noOwn δ vs
  | [], _ => trivial
  | v :: vs, h => by
    refine ⟨?_, noOwn.of fun i hi => h i (List.mem_cons_of_mem _ hi)⟩
    split
    · rename_i d q
      exact h v List.mem_cons_self d q
    · trivial
theorem wipeD_length (δ : DEnv) : ∀ vs : List Nat, (wipeD δ vs).length = δ.length
  | [] => rfl
  | v :: vs => by unfold wipeD; rw [List.length_set, wipeD_length δ vs]
theorem unw_length (δ δ2 : DEnv) : ∀ vs : List Nat, (unw δ δ2 vs).length = δ2.length
  | [] => rfl
  | v :: vs => by unfold unw; rw [List.length_set, unw_length δ δ2 vs]
theorem wipeD_out {δ : DEnv} {i : Nat} : ∀ {vs : List Nat}, i ∉ vs → (wipeD δ vs)[i]? = δ[i]?
  | [], _ => rfl
  | v :: vs, h => by
    unfold wipeD
    rw [List.getElem?_set_ne fun e => h (by rw [e]; exact List.mem_cons_self)]
    exact wipeD_out fun z => h (List.mem_cons_of_mem _ z)
theorem wipeD_in {δ : DEnv} {i : Nat} {c : Cell} : ∀ {vs : List Nat}, i ∈ vs → (wipeD δ vs)[i]? = some c → c = .emp
  | [], h, _ => by cases h
  | v :: vs, h, e => by
    unfold wipeD at e
    rcases get_set e with ⟨_, e1, _⟩ | ⟨n, e1⟩
    · exact e1
    · exact wipeD_in ((List.mem_cons.mp h).resolve_left n) e1
theorem wipe_in {σ : Sg} {i : Nat} : ∀ {vs : List Nat}, i ∈ vs → i < σ.length → (wipe σ vs)[i]? = some none
  | [], h, _ => by cases h
  | v :: vs, h, hl => by
    unfold wipe
    by_cases e : v = i
    · subst e
      rw [List.getElem?_set_self (by rw [wipe_length]; exact hl)]
    · rw [List.getElem?_set_ne e]
      exact wipe_in ((List.mem_cons.mp h).resolve_left (Ne.symm e)) hl
theorem unw_out {δ δ2 : DEnv} {i : Nat} : ∀ {vs : List Nat}, i ∉ vs → (unw δ δ2 vs)[i]? = δ2[i]?
  | [], _ => rfl
  | v :: vs, h => by
    unfold unw
    rw [List.getElem?_set_ne fun e => h (by rw [e]; exact List.mem_cons_self)]
    exact unw_out fun z => h (List.mem_cons_of_mem _ z)
theorem unw_in {δ δ2 : DEnv} {i : Nat} (hl : δ.length = δ2.length) : ∀ {vs : List Nat}, i ∈ vs → (unw δ δ2 vs)[i]? = δ[i]?
  | [], h => by cases h
  | v :: vs, h => by
    unfold unw
    by_cases e : v = i
    · subst e
      by_cases hi : v < δ.length
      · rw [List.getElem?_set_self (by rw [unw_length, ← hl]; exact hi), List.getD_eq_getElem?_getD, List.getElem?_eq_getElem hi]
        rfl
      · rw [List.getElem?_eq_none (by rw [List.length_set, unw_length]; omega), List.getElem?_eq_none (by omega)]
    · rw [List.getElem?_set_ne e]
      exact unw_in hl ((List.mem_cons.mp h).resolve_left (Ne.symm e))
theorem wipe_eq {σ σ2 : Sg} {vs : List Nat} (hl : σ2.length = σ.length) (h : ∀ i : Nat, i ∉ vs → σ2[i]? = (wipe σ vs)[i]?) : wipe σ2 vs = wipe σ vs := by
  apply List.ext_getElem?
  intro i
  by_cases hi : i ∈ vs
  · by_cases hl2 : i < σ.length
    · rw [wipe_in hi (by rw [hl]; exact hl2), wipe_in hi hl2]
    · rw [List.getElem?_eq_none (by rw [wipe_length]; omega), List.getElem?_eq_none (by rw [wipe_length]; omega)]
  · rw [wipe_out hi]
    exact h i hi
section
variable {K : Fr} {M M' : Ad} {δ δ' : DEnv} {σ : Sg} {H H' : Hp}
theorem EnvOk.wipe {vs : List Nat} (E : EnvOk K g M δ σ H) (no : noOwn δ vs) : EnvOk K g M (wipeD δ vs) (L2.wipe σ vs) H := by
  have own : ∀ {i : Nat} {d : D}, (wipeD δ vs)[i]? = some (.own d) → i ∉ vs ∧ δ[i]? = some (.own d) := fun {i d} h => by
    by_cases hi : i ∈ vs
    · cases wipeD_in hi h
    · rw [wipeD_out hi] at h
      exact ⟨hi, h⟩
  refine ⟨by rw [wipeD_length, wipe_length, E.len], E.dom, E.up, E.new, E.d0, E.pres, fun i c v h1 h2 => ?_, fun i j d e p h1 h2 h3 h4 => ?_, fun p hp => ?_⟩
  · by_cases hi : i ∈ vs
    · rw [wipeD_in hi h1]
      trivial
    · rw [wipeD_out hi] at h1
      rw [wipe_out hi] at h2
      exact E.cell i c v h1 h2
  · obtain ⟨n1, h1⟩ := own h1
    obtain ⟨n2, h2⟩ := own h2
    rw [wipe_out n1] at h3
    rw [wipe_out n2] at h4
    exact E.apart i j d e p h1 h2 h3 h4
  · obtain ⟨d, h1, h2⟩ := E.ion p hp
    have n0 : 0 ∉ vs := fun hm => no.at 0 hm d h1
    exact ⟨d, by rw [wipeD_out n0]; exact h1, by rw [wipe_out n0]; exact h2⟩
/-- less may be changed -/
theorem EnvOk.back (E' : EnvOk K g M' δ' σ H') (E : EnvOk K g M δ σ H) (k : Kin δ δ') (l : ∀ a, M a → M' a) : EnvOk K g M δ' σ H' := by
  refine ⟨E'.len, fun a m => E'.dom a (l a m), E.up, E.new, E.d0, E'.pres, fun i c v h1 h2 => ?_, E'.apart, E'.ion⟩
  have q := E'.cell i c v h1 h2
  cases c with
  | emp => trivial
  | val d =>
    cases v with
    | none => exact q
    | some v => exact Rep.less q l
  | own d =>
    obtain ⟨p, ds, vs, e, h3, O⟩ := E'.own h1
    subst e
    rw [h2] at h3
    cases h3
    obtain ⟨b, hb⟩ := k.own h1
    obtain ⟨p', ds', vs', _, h4, O'⟩ := E.own hb
    rw [h2] at h4
    cases h4
    exact ⟨O'.m, O.from_, vs, O.at_, O.reps.less l⟩
/-- a thing of M that is no own list of the names is written -/
theorem EnvOk.write {p : Addr} {o o0 : HO} (E : EnvOk K g M δ σ H) (hp0 : H p = some o0) (nx : Nx o0) (nt : Nt o) (m : M p) (np : g.H0 p = none) (na : ∀ (i : Nat) (d : D), δ[i]? = some (.own d) → σ[i]? ≠ some (some (.ref p))) : EnvOk K g M δ σ (upd H p o) := by
  have gr : Grow M H M (upd H p o) := ⟨fun _ h => .inl h, fun b o' n h _ => by
    rw [upd_ne (fun e => n (by rw [e]; exact m))]
    exact h, fun b h => upd_dom h, fun b o t h => upd_tp hp0 nx.2.2 t h⟩
  refine E.step gr (fun _ h => h) (fun a ma z => ?_) (fun _ h => .inl h) (fun i ds q vs h1 h2 O => ⟨vs, ?_, O.reps.grow gr⟩) (fun b o' h0 _ _ h => ?_) (E.pres.2.2.upd hp0 nx nt)
  · by_cases e : a = p
    · subst e
      rw [upd_same] at z
      cases z
    · rw [upd_ne e] at z
      exact E.dom a ma z
  · rw [upd_ne fun e => na i _ h1 (by rw [← e]; exact h2)]
    exact O.at_
  · rw [upd_ne fun e => by rw [e, np] at h0; cases h0]
    exact h
end
def noX : XD := fun _ _ _ => False
def noW : WX := fun _ _ _ _ => False
theorem noX_ok {K : Fr} {W : WX} {M : Ad} {δ : DEnv} {σ : Sg} {H : Hp} : ExOk K g W M δ σ H noX := fun _ _ _ _ _ _ h => h.elim
def lcL (gt : DGt) (tst : DTx) (elt : DEx) (vs : List Nat) (Q : List D → DEnv → Prop) : List D → List D → DEnv → Prop
  | [], acc, δ => Q acc δ
  | d :: ds, acc, δ => gt d δ fun δ1 => tst δ1 (fun b δ2 => if b = true then elt δ2 (fun y δ3 => few acc.length ∧ lcL gt tst elt vs Q ds (acc ++ [y]) (wipeD δ3 vs)) noX else lcL gt tst elt vs Q ds acc (wipeD δ2 vs)) noX
def lcF (it : DIx) (gt : DGt) (tst : DTx) (elt : DEx) (vs : List Nat) : DFx := fun δ Q Xd => it δ (fun ds δ1 => noOwn δ1 vs ∧ lcL gt tst elt vs (fun out δ2 => Q out (unw δ1 δ2 vs)) ds [] (wipeD δ1 vs)) Xd
/-- a clause's tests -/
structure DTs (X : Cx) (g : GX) (W : WX) (es : List Expr) (t : DTx) : Prop where
  pts : PTs X es (cT X.K g W t)
def yesD : DTx := fun δ Q _ => Q true δ
theorem dts_nil : DTs X g W [] yesD := ⟨⟨fun pins s σ H Q I q => by
  obtain ⟨M, δ, Qd, Xd, E, h, k, kx⟩ := q
  exact pts_nil.run pins s σ H Q I (k true δ H h E (Stp.refl _ _ _ _))⟩⟩
theorem dts_one {c : Expr} {t : DTx} (h : DT X g W c t) : DTs X g W [c] t := ⟨pts_one h.pt⟩
theorem lc_sound {K : Fr} {it : DIx} {gt : DGt} {tst : DTx} {elt : DEx} {ts vs : List Nat} (hts : ∀ i ∈ ts, i ∈ vs) {σ : Sg} {H : Hp} {Q : VK} (q : cF K g W (lcF it gt tst elt vs) σ H Q) :
    tLc (cI K g W it) (cG K g ts gt) (cT K g noW tst) (cE K g noW elt) vs σ H Q := by
  obtain ⟨M, δ, Qd, Xd, E, h, k, kx⟩ := q
  refine ⟨M, δ, _, Xd, E, h, fun ds δ1 H1 J ⟨no, h1⟩ E1 g1 wk A hA => ?_, kx⟩
  have hA0 : H A = none := by
    cases e : H A with
    | none => rfl
    | some o =>
      exact absurd hA (g1.g.n A (some_ne e))
  have EA := E1.and (o := .lst []) hA
  have gA : Grow M H1 (M.and A) (upd H1 A (.lst [])) := Grow.and hA
  -- own lists lie apart from the new one
  have apart : ∀ (i : Nat) (d : D), i ∉ vs → δ1[i]? = some (.own d) → σ[i]? ≠ some (some (.ref A)) := fun i d _ h1 h2 => by
    obtain ⟨p, ds', vs', _, h3, O⟩ := E1.own h1
    rw [h2] at h3
    cases h3
    exact E1.dom _ O.m hA
  refine ⟨fun i m H' => ∃ δ' acc accV, EnvOk K g (M.and A) δ' (wipe σ vs) H' ∧ Kin (wipeD δ1 vs) δ' ∧ (Grow (M.and A) (upd H1 A (.lst [])) (M.and A) H' ∧ ∀ b o, H1 b = some o → NotOwn δ1 σ b → Nt o → H' b = some o) ∧ H' A = some (.lst accV) ∧ Reps K (M.and A) H' acc accV ∧
    lcL gt tst elt vs (fun out δ2 => Qd out (unw δ1 δ2 vs)) (ds.drop i) acc δ' ∧ m = ds.length - i, ⟨ds.length, wipeD δ1 vs, [], [], EA.wipe no, Kin.refl _, ⟨Grow.refl _ _, fun b o hb _ _ => (same_upd hA).k b o hb⟩, upd_same, rfl, h1, rfl⟩, ?_⟩
  rintro i m H2 ⟨δ2, acc, accV, E2, k2, ⟨gr2, fr2⟩, hA2, rA, h2, rfl⟩
  have ownK : ∀ {δ' : DEnv} {j : Nat} {d : D}, Kin (wipeD δ1 vs) δ' → δ'[j]? = some (.own d) → j ∉ vs ∧ ∃ b, δ1[j]? = some (.own b) := fun {δ' j d} kk hj => by
    obtain ⟨b, hb⟩ := kk.own hj
    by_cases hv : j ∈ vs
    · cases wipeD_in hv hb
    · rw [wipeD_out hv] at hb
      exact ⟨hv, b, hb⟩
  cases e : ds[i]? with
  | none =>
    have hi : ds.length ≤ i := List.getElem?_eq_none_iff.mp e
    refine .inl ⟨wk.stop _ H2 (gA.trans gr2) i hi, ?_⟩
    rw [List.drop_eq_nil_of_le hi] at h2
    have kin : Kin δ1 (unw δ1 δ2 vs) := fun j => by
      have hl : δ1.length = δ2.length := by rw [E2.len, wipe_length, E1.len]
      by_cases hj : j ∈ vs
      · exact .inl (unw_in hl hj)
      · rw [unw_out hj]
        rcases k2 j with z | ⟨a, b, z1, z2⟩
        · rw [wipeD_out hj] at z
          exact .inl z
        · rw [wipeD_out hj] at z1
          exact .inr ⟨a, b, z1, z2⟩
    have E3 : EnvOk K g (M.and A) (unw δ1 δ2 vs) σ H2 := by
      have hl : δ1.length = δ2.length := by rw [E2.len, wipe_length, E1.len]
      have own : ∀ {j : Nat} {d : D}, (unw δ1 δ2 vs)[j]? = some (.own d) → j ∉ vs ∧ δ2[j]? = some (.own d) := fun {j d} hj => by
        by_cases hv : j ∈ vs
        · rw [unw_in hl hv] at hj
          exact absurd hj (no.at j hv d)
        · rw [unw_out hv] at hj
          exact ⟨hv, hj⟩
      refine ⟨by rw [unw_length, ← hl, E1.len], E2.dom, E2.up, E2.new, E2.d0, E2.pres, fun j c v h3 h4 => ?_, fun j l d e p h3 h4 h5 h6 => ?_, fun p hp => ?_⟩
      · by_cases hv : j ∈ vs
        · rw [unw_in hl hv] at h3
          have z := E1.cell j c v h3 h4
          cases c with
          | emp => trivial
          | val d =>
            cases v with
            | none => exact z
            | some v => exact Rep.grow (gA.trans gr2) z
          | own d => exact absurd h3 (no.at j hv d)
        · rw [unw_out hv] at h3
          exact E2.cell j c v h3 (by rw [wipe_out hv]; exact h4)
      · obtain ⟨n1, h3⟩ := own h3
        obtain ⟨n2, h4⟩ := own h4
        exact E2.apart j l d e p h3 h4 (by rw [wipe_out n1]; exact h5) (by rw [wipe_out n2]; exact h6)
      · obtain ⟨d, h3, h4⟩ := E2.ion p hp
        by_cases hv : 0 ∈ vs
        · obtain ⟨d', h5, _⟩ := E1.ion p hp
          exact absurd h5 (no.at 0 hv d')
        · exact ⟨d, by rw [unw_out hv]; exact h3, by rw [wipe_out hv] at h4; exact h4⟩
    have E4 : EnvOk K g M (unw δ1 δ2 vs) σ H2 := E3.back E1 kin fun a m => .inl m
    have g4 : Grow M H1 M H2 := by
      have z := gA.trans gr2
      exact ⟨fun b m => .inl m, z.k, z.n, z.t⟩
    exact k acc _ A accV H2 h2 E4 E3 (g1.trans ⟨g4, kin, fr2⟩) hA0 hA2 rA
  | some d =>
    have hi : i < ds.length := (List.getElem?_eq_some_iff.mp e).1
    have ed : ds.drop i = d :: ds.drop (i + 1) := by
      rw [List.drop_eq_getElem_cons hi, (List.getElem?_eq_some_iff.mp e).2]
    obtain ⟨hgo, hy⟩ := wk.go _ H2 (gA.trans gr2) E2.dom i d e
    rw [ed] at h2
    refine .inr ⟨hgo, fun H' => ∃ δ' acc accV, EnvOk K g (M.and A) δ' (wipe σ vs) H' ∧ Kin (wipeD δ1 vs) δ' ∧ (Grow (M.and A) (upd H1 A (.lst [])) (M.and A) H' ∧ ∀ b o, H1 b = some o → NotOwn δ1 σ b → Nt o → H' b = some o) ∧ H' A = some (.lst accV) ∧ Reps K (M.and A) H' acc accV ∧
      lcL gt tst elt vs (fun out δ2 => Qd out (unw δ1 δ2 vs)) (ds.drop (i + 1)) acc δ', fun H' ⟨δ', a1, a2, a3, a4, a5, a6, a7, a8⟩ => ⟨ds.length - (i + 1), by omega, δ', a1, a2, a3, a4, a5, a6, a7, a8, rfl⟩, fun x H3 yx => ?_⟩
    obtain ⟨s3, r3⟩ := hy x H3 yx
    have E3 := E2.same s3
    refine ⟨M.and A, δ2, d, _, E3, r3, h2, fun δ4 σ4 h4 E4 t4 => ?_⟩
    have hl4 : σ4.length = σ.length := by rw [t4.len, wipe_length]
    have hw : wipe σ4 vs = wipe σ vs := wipe_eq hl4 fun j hj => t4.s j fun z => hj (hts j z)
    refine ⟨hw, M.and A, δ4, _, _, E4, h4, fun b δ5 H5 h5 E5 g5 => ?_, noX_ok⟩
    -- behind a turn the names of the block are forgotten
    have kinW : ∀ {δ6 : DEnv}, Kin δ4 δ6 → Kin (wipeD δ1 vs) (wipeD δ6 vs) ∧ noOwn δ6 vs := fun {δ6} kk => by
      have nov : ∀ j ∈ vs, ∀ d, δ6[j]? ≠ some (.own d) := fun j hj d hd => by
        obtain ⟨b', hb'⟩ := kk.own hd
        by_cases hjt : j ∈ ts
        · exact t4.o j hjt b' hb'
        · rw [t4.d j hjt] at hb'
          exact (ownK k2 hb').1 hj
      refine ⟨fun j => ?_, noOwn.of nov⟩
      by_cases hj : j ∈ vs
      · left
        have e1 : ∀ {δ' : DEnv}, δ'.length = σ.length → (wipeD δ' vs)[j]? = if j < σ.length then some .emp else none := fun {δ'} hl' => by
          by_cases hjl : j < σ.length
          · rw [if_pos hjl, List.getElem?_eq_getElem (by rw [wipeD_length, hl']; exact hjl)]
            exact congrArg some (wipeD_in hj (List.getElem?_eq_getElem (by rw [wipeD_length, hl']; exact hjl)))
          · rw [if_neg hjl, List.getElem?_eq_none (by rw [wipeD_length, hl']; omega)]
        have l6 : δ6.length = σ.length := by
          have l4 : δ4.length = σ.length := by rw [E4.len, hl4]
          have ge : ∀ n : Nat, n < δ6.length ↔ n < δ4.length := fun n => by
            rcases kk n with z | ⟨a, b, z1, z2⟩
            · constructor
              · intro hn
                rw [List.getElem?_eq_getElem hn] at z
                exact (List.getElem?_eq_some_iff.mp z.symm).1
              · intro hn
                rw [List.getElem?_eq_getElem hn] at z
                exact (List.getElem?_eq_some_iff.mp z).1
            · exact ⟨fun _ => (List.getElem?_eq_some_iff.mp z1).1, fun _ => (List.getElem?_eq_some_iff.mp z2).1⟩
          have a1 := ge δ6.length
          have a2 := ge δ4.length
          omega
        rw [e1 l6, e1 E1.len]
      · rw [wipeD_out hj]
        rcases kk j with z | ⟨a, b, z1, z2⟩
        · rw [z, t4.d j fun zz => hj (hts j zz)]
          exact k2 j
        · rw [t4.d j fun zz => hj (hts j zz)] at z1
          obtain ⟨b', hb'⟩ := k2.own z1
          exact .inr ⟨b', b, hb', z2⟩
    have nown : ∀ b, NotOwn δ1 σ b → NotOwn δ4 σ4 b := fun b nb j dd hj hs => by
      by_cases hjt : j ∈ ts
      · exact t4.o j hjt dd hj
      · rw [t4.d j hjt] at hj
        rw [t4.s j hjt] at hs
        obtain ⟨nj, b', hb'⟩ := ownK k2 hj
        rw [wipe_out nj] at hs
        exact nb j b' hb' hs
    have notA : NotOwn δ1 σ A := fun j dd hj => apart j dd (fun hv => no.at j hv dd hj) hj
    have A5 : H5 A = some (.lst accV) := g5.f A _ (s3 _ _ hA2) (nown A notA) nt_lst
    show if b = true then _ else _
    by_cases hb : b = true
    · rw [if_pos hb] at h5 ⊢
      refine ⟨M.and A, δ5, _, _, E5, h5, fun y δ6 v H6 ⟨hf, h6⟩ E6 g6 r6 => ?_, noX_ok⟩
      have kk := g5.k.trans g6.k
      obtain ⟨kw, no6⟩ := kinW kk
      have A6 : H6 A = some (.lst accV) := g6.f A _ A5 (g5.k.notOwn (nown A notA)) nt_lst
      have g26 : Grow (M.and A) H2 (M.and A) H6 := ((Grow.of_same s3).trans g5.g).trans g6.g
      have rA6 : Reps K (M.and A) H6 acc accV := rA.grow g26
      have gW : Grow (M.and A) H6 (M.and A) (upd H6 A (.lst (accV ++ [v]))) := ⟨fun _ z => .inl z, fun b o n z _ => by
        rw [upd_ne fun e => n (.inr e)]
        exact z, fun b h => upd_dom h, fun b o t h => upd_tp A6 nx_lst.2.2 t h⟩
      have rn : Reps K (M.and A) (upd H6 A (.lst (accV ++ [v]))) (acc ++ [y]) (accV ++ [v]) := (rA6.append (show Reps K (M.and A) H6 [y] [v] from ⟨v, [], rfl, r6, rfl⟩)).grow gW
      refine ⟨accV, A6, by rw [← rA.length]; exact few_lt hf, wipeD δ6 vs, acc ++ [y], accV ++ [v], ?_, kw, ⟨gr2.trans (g26.trans gW), fun b o hb1 nb tb => ?_⟩, upd_same, rn, h6⟩
      · have Ew := E6.wipe no6
        rw [hw] at Ew
        refine Ew.write A6 nx_lst nt_lst (.inr rfl) (E1.h0 hA) fun j dd hj hs => ?_
        obtain ⟨nj, b', hb'⟩ := ownK kw hj
        rw [wipe_out nj] at hs
        exact notA j b' hb' hs
      · rw [upd_ne (ne_of_none hb1 hA)]
        exact g6.f b o (g5.f b o (s3 _ _ (fr2 b o hb1 nb tb)) (nown b nb) tb) (g5.k.notOwn (nown b nb)) tb
    · rw [if_neg hb] at h5 ⊢
      obtain ⟨kw, no5⟩ := kinW g5.k
      have Ew := E5.wipe no5
      rw [hw] at Ew
      exact ⟨wipeD δ5 vs, acc, accV, Ew, kw, ⟨gr2.trans ((Grow.of_same s3).trans g5.g), fun b o hb1 nb tb => g5.f b o (s3 _ _ (fr2 b o hb1 nb tb)) (nown b nb) tb⟩, A5, rA.grow ((Grow.of_same s3).trans g5.g), h5⟩
end
end Dn

set_option Elab.async false
set_option linter.all false
set_option maxRecDepth 100000
set_option maxHeartbeats 4000000
namespace Dn
open PySem PySem.Spec PyProof.Rows L2
section
variable {X : Cx} {g : GX} {W : WX} {exp : Expr} {pos : Pos}
theorem df_lc {elt tg iter : Expr} {ifs : List Expr} {scope : Scope} {own : List (Str × Nat)} {it : DIx} {ts : List Nat} {gt : DGt} {tst : DTx} {ee : DEx} (hc : X.calm = true) (hN : X.N.Nodup) (hi : DI X g W tg iter it) (ok : BlkOk X.N X.env.scope scope own)
    (hts : ∀ i ∈ ts, i ∈ own.map (·.2))
    (hg : ∀ (s : Shared) (H : Hp) (C : Addr) (cl : List (Str × Addr)) (fp : List Addr), DG (X.blk s H scope (compEnvC scope cl C X.env) fp) g tg ts gt) (ht : ∀ (s : Shared) (H : Hp) (C : Addr) (cl : List (Str × Addr)) (fp : List Addr), DTs (X.blk s H scope (compEnvC scope cl C X.env) fp) g noW ifs tst)
    (he : ∀ (s : Shared) (H : Hp) (C : Addr) (cl : List (Str × Addr)) (fp : List Addr), DE (X.blk s H scope (compEnvC scope cl C X.env) fp) g noW elt ee) (hs : ∀ x, foldedSetIterable iter X.env x = pure x := by intro _; rfl) :
    DF X g W (.ListComp elt [⟨tg, iter, ifs, 0⟩] scope pos) (lcF it gt tst ee (own.map (·.2))) :=
  ⟨(pe_lc hc hN hi.pi ok (fun s H C cl fp => (hg s H C cl fp).pg) (fun s H C cl fp => (ht s H C cl fp).pts) (fun s H C cl fp => (he s H C cl fp).pe) hs).imp fun _ _ _ q => lc_sound hts q⟩
/-! ### names of new lists -/
def ownD (e : DFx) (i : Nat) : DSt := fun k δ => e δ (fun ds δ1 => slotOk i δ1 ∧ k.nx (δ1.set i (.own (.lst ds)))) k.ex
theorem own_sound {K : Fr} {e : DFx} {i : Nat} {T : Ends} {σ : Sg} {H : Hp} (q : cS K g W (ownD e i) T σ H) : tAsg (cF K g W e) (gName i) T σ H := by
  obtain ⟨M, δ, k, E, h, S⟩ := q
  refine ⟨M, δ, _, _, E, h, fun ds δ1 p vs H1 ⟨so, h1⟩ E1 E2 st hp hv r => ?_, S.exok⟩
  refine S.nx (M.and p) _ _ H1 h1 (E2.setOwn (.inr rfl) (E.h0 hp) hv r so fun j e hj _ hs => ?_) ⟨fun b m => m.elim .inl fun z => .inr (by rw [z]; exact hp), fun b o n h t => st.g.k b o n h t, st.g.n, st.g.t⟩
  obtain ⟨b, hb⟩ := st.k.own hj
  obtain ⟨p', ds', vs', _, h3, O⟩ := E.own hb
  rw [hs] at h3
  cases h3
  exact E.dom p O.m hp
theorem ds_own {e : Expr} {ef : DFx} {i : Nat} {x : Str} {pos' : Pos} (he : DF X g W e ef) (hN : X.N.Nodup) (hi : X.N[i]? = some x) (hx : Loc X.env.scope x) (hs : swapsWith e (some (.Name x pos')) pos.line X.env = pure false := by rfl)
    (hf : X.fn x = true ∨ X.env.scope.names.lookup x = some .local := by first | exact .inl rfl | exact .inr rfl | assumption) : DS X g W (.Assign [.Name x pos'] e pos) (ownD ef i) :=
  ⟨(ps_set hN hi hx he.pe hs hf).imp fun _ _ _ q => own_sound q⟩
theorem de_set_frd {K : Fr} {e : DFx} {i : Nat} {T : Ends} {σ : Sg} {H : Hp} (q : cS K g W (asgD (frD e) (gN i)) T σ H) : tAsg (cF K g W e) (gName i) T σ H := by
  obtain ⟨M, δ, k, E, h, S⟩ := q
  refine ⟨M, δ, _, _, E, h, fun ds δ1 p vs H1 h1 E1 E2 st hp hv r => ?_, S.exok⟩
  obtain ⟨so, h2⟩ : gN i (.lst ds) δ1 k.nx := h1
  exact S.nx M _ _ H1 h2 (E1.setVal ⟨p, vs, rfl, ⟨fun m => E.dom p m hp, hv⟩, r.less fun a m => .inl m⟩ so) st.g
/-- name = [.. for ..] on one line -/
theorem ps_lc {i : Nat} {y : Str} {py spos : Pos} {elt tg iter : Expr} {ifs : List Expr} {scope : Scope} {own : List (Str × Nat)} {it : DIx} {ts : List Nat} {gt : DGt} {tst : DTx} {ee : DEx} (hc : X.calm = true) (hN : X.N.Nodup) (hy : X.N[i]? = some y) (hyl : X.env.scope.names.lookup y = some .local)
    (hsw : swapsWith (.ListComp elt [⟨tg, iter, ifs, 0⟩] scope pos) (some (.Name y py)) spos.line X.env = pure true) (hi : DI X g W tg iter it) (ok : BlkOk X.N X.env.scope scope own)
    (hts : ∀ i ∈ ts, i ∈ own.map (·.2))
    (hg : ∀ (s : Shared) (H : Hp) (C : Addr) (cl : List (Str × Addr)) (fp : List Addr), DG (X.blk s H scope (compEnvC scope cl C X.env) fp) g tg ts gt) (ht : ∀ (s : Shared) (H : Hp) (C : Addr) (cl : List (Str × Addr)) (fp : List Addr), DTs (X.blk s H scope (compEnvC scope cl C X.env) fp) g noW ifs tst)
    (he : ∀ (s : Shared) (H : Hp) (C : Addr) (cl : List (Str × Addr)) (fp : List Addr), DE (X.blk s H scope (compEnvC scope cl C X.env) fp) g noW elt ee) (hs : ∀ x, foldedSetIterable iter X.env x = pure x := by intro _; rfl) :
    PS X (.Assign [.Name y py] (.ListComp elt [⟨tg, iter, ifs, 0⟩] scope pos) spos) (tAsg (cF X.K g W (lcF it gt tst ee (own.map (·.2)))) (gName i)) :=
  (ps_setLc hc hN hy hyl hsw hi.pi ok (fun s H C cl fp => (hg s H C cl fp).pg) (fun s H C cl fp => (ht s H C cl fp).pts) (fun s H C cl fp => (he s H C cl fp).pe) hs).imp fun T σ H q => lc_sound hts q
theorem ds_lcV {st : Stmt} {e : DFx} {i : Nat} (h : PS X st (tAsg (cF X.K g W e) (gName i))) : DS X g W st (asgD (frD e) (gN i)) := ⟨h.imp fun _ _ _ q => de_set_frd q⟩
theorem ds_lcO {st : Stmt} {e : DFx} {i : Nat} (h : PS X st (tAsg (cF X.K g W e) (gName i))) : DS X g W st (ownD e i) := ⟨h.imp fun _ _ _ q => own_sound q⟩
/-! ### several values at once, some of them new lists -/
abbrev DMx := DEnv → (List Cell → DEnv → Prop) → XD → Prop
def OwnIn (q : Addr) (cs : List Cell) (vs : List V) : Prop := ∃ (i : Nat) (d : D), cs[i]? = some (.own d) ∧ vs[i]? = some (.ref q)
def News (K : Fr) (M : Ad) (H : Hp) (M' : Ad) (H' : Hp) : List Cell → List V → Prop
  | [], vs => vs = []
  | .val d :: cs, vs => ∃ v r, vs = v :: r ∧ Rep K M' H' d v ∧ News K M H M' H' cs r
  | .own (.lst ds) :: cs, vs => ∃ p us r, vs = .ref p :: r ∧ M' p ∧ H p = none ∧ H' p = some (.lst us) ∧ Reps K M' H' ds us ∧ (∀ q, OwnIn q cs r → q ≠ p) ∧ News K M H M' H' cs r
  | _ :: _, _ => False
def cM (K : Fr) (g : GX) (W : WX) (e : DMx) : TA := fun σ H Q => ∃ M δ Qd Xd, EnvOk K g M δ σ H ∧ e δ Qd Xd ∧
  (∀ cs δ' M' vs H', Qd cs δ' → EnvOk K g M δ' σ H' → EnvOk K g M' δ' σ H' → (∀ a, M a → M' a) → Grow M H M' H' → Stp M δ σ H δ' H' → News K M H M' H' cs vs → Q vs H') ∧ ExOk K g W M δ σ H Xd
structure DM (X : Cx) (g : GX) (W : WX) (es : List Expr) (e : DMx) : Prop where
  pa : PA X es (cM X.K g W e)
def mnD : DMx := fun δ Q _ => Q [] δ
def mvD (e : DEx) (m : DMx) : DMx := fun δ Q Xd => e δ (fun d δ1 => m δ1 (fun cs δ2 => Q (.val d :: cs) δ2) Xd) Xd
def moD (e : DFx) (m : DMx) : DMx := fun δ Q Xd => e δ (fun ds δ1 => m δ1 (fun cs δ2 => Q (.own (.lst ds) :: cs) δ2) Xd) Xd
theorem dm_nil : DM X g W [] mnD := by
  refine ⟨pa_nil.imp fun σ H Q q => ?_⟩
  obtain ⟨M, δ, Qd, Xd, E, he, k, kx⟩ := q
  exact k [] δ M [] H he E E (fun _ h => h) (Grow.refl _ _) (Stp.refl _ _ _ _) rfl
theorem OwnIn.tail {q : Addr} {c : Cell} {cs : List Cell} {v : V} {vs : List V} (h : OwnIn q cs vs) : OwnIn q (c :: cs) (v :: vs) := by
  obtain ⟨i, d, h1, h2⟩ := h
  exact ⟨i + 1, d, by simpa using h1, by simpa using h2⟩
theorem News.own {K : Fr} {M M' : Ad} {H H' : Hp} {q : Addr} : ∀ {cs : List Cell} {vs : List V}, News K M H M' H' cs vs → OwnIn q cs vs → M' q ∧ H q = none
  | [], vs, h, ⟨i, d, h1, _⟩ => by simp at h1
  | .val d :: cs, vs, h, ⟨i, e, h1, h2⟩ => by
    obtain ⟨v, r, ev, _, hr⟩ := h
    subst ev
    cases i with
    | zero => simp at h1
    | succ i => exact News.own hr ⟨i, e, by simpa using h1, by simpa using h2⟩
  | .own (.lst ds) :: cs, vs, h, ⟨i, e, h1, h2⟩ => by
    obtain ⟨p, us, r, ev, m, hp, _, _, _, hr⟩ := h
    subst ev
    cases i with
    | zero =>
      simp at h2
      rw [← h2]
      exact ⟨m, hp⟩
    | succ i => exact News.own hr ⟨i, e, by simpa using h1, by simpa using h2⟩
  | .emp :: _, _, h, _ => False.elim h
  | .own .non :: _, _, h, _ => False.elim h
  | .own (.bl _) :: _, _, h, _ => False.elim h
  | .own (.int _) :: _, _, h, _ => False.elim h
  | .own (.str _) :: _, _, h, _ => False.elim h
  | .own (.tup _) :: _, _, h, _ => False.elim h
  | .own (.obj _ _ _) :: _, _, h, _ => False.elim h
  | .own (.scr _) :: _, _, h, _ => False.elim h
  | .own (.at _) :: _, _, h, _ => False.elim h
  | .own (.dct _ _) :: _, _, h, _ => False.elim h
  | .own (.dck _ _) :: _, _, h, _ => False.elim h
theorem News.base {K : Fr} {M M1 M' : Ad} {H H1 H' : Hp} (f : ∀ q, H1 q = none → H q = none) : ∀ {cs : List Cell} {vs : List V}, News K M1 H1 M' H' cs vs → News K M H M' H' cs vs
  | [], vs, h => h
  | .val d :: cs, vs, h => by
    obtain ⟨v, r, ev, rv, hr⟩ := h
    exact ⟨v, r, ev, rv, News.base f hr⟩
  | .own (.lst ds) :: cs, vs, h => by
    obtain ⟨p, us, r, ev, m, hp, a, b, c, hr⟩ := h
    exact ⟨p, us, r, ev, m, f p hp, a, b, c, News.base f hr⟩
  | .emp :: _, _, h => False.elim h
  | .own .non :: _, _, h => False.elim h
  | .own (.bl _) :: _, _, h => False.elim h
  | .own (.int _) :: _, _, h => False.elim h
  | .own (.str _) :: _, _, h => False.elim h
  | .own (.tup _) :: _, _, h => False.elim h
  | .own (.obj _ _ _) :: _, _, h => False.elim h
  | .own (.scr _) :: _, _, h => False.elim h
  | .own (.at _) :: _, _, h => False.elim h
  | .own (.dct _ _) :: _, _, h => False.elim h
  | .own (.dck _ _) :: _, _, h => False.elim h
theorem Stp.free {K : Fr} {M : Ad} {δ δ' : DEnv} {σ : Sg} {H H' : Hp} (E : EnvOk K g M δ σ H) (st : Stp M δ σ H δ' H') (E' : EnvOk K g M δ' σ H') {q : Addr} (h : H' q = none) : H q = none := by
  cases e : H q with
  | none => rfl
  | some o =>
    exact absurd h (st.g.n q (some_ne e))
theorem dm_val {e : Expr} {es : List Expr} {ee : DEx} {m : DMx} (he : DE X g W e ee) (hs : DM X g W es m) (hq : starEach (e :: es) X.env = (false, eval e X.env) :: starEach es X.env := by rfl) : DM X g W (e :: es) (mvD ee m) := by
  refine ⟨(pa_cons he.pe hs.pa hq).imp fun σ H Q q => ?_⟩
  obtain ⟨M, δ, Qd, Xd, E, h, k, kx⟩ := q
  refine ⟨M, δ, _, Xd, E, h, fun d δ1 v H1 h1 E1 g1 r1 => ?_, kx⟩
  refine ⟨M, δ1, _, Xd, E1, h1, fun cs δ2 M' vs H2 h2 E2 E2' mm gr st nw => ?_, kx.grow g1⟩
  exact k (.val d :: cs) δ2 M' (v :: vs) H2 h2 E2 E2' mm (g1.g.trans gr) (g1.trans st) ⟨v, vs, rfl, r1.grow gr, nw.base fun q hq => g1.free E E1 hq⟩
theorem dm_own {e : Expr} {es : List Expr} {ee : DFx} {m : DMx} (he : DF X g W e ee) (hs : DM X g W es m) (hq : starEach (e :: es) X.env = (false, eval e X.env) :: starEach es X.env := by rfl) : DM X g W (e :: es) (moD ee m) := by
  refine ⟨(pa_cons he.pe hs.pa hq).imp fun σ H Q q => ?_⟩
  obtain ⟨M, δ, Qd, Xd, E, h, k, kx⟩ := q
  refine ⟨M, δ, _, Xd, E, h, fun ds δ1 p us H1 h1 E1 E1' g1 hp hv r1 => ?_, kx⟩
  have np : NotOwn δ1 σ p := fun j dd hj hs => by
    obtain ⟨p', ds', vs', _, h3, O⟩ := E1.own hj
    rw [hs] at h3
    cases h3
    obtain ⟨b, hb⟩ := g1.k.own hj
    obtain ⟨p', ds', vs', _, h3, O⟩ := E.own hb
    rw [hs] at h3
    cases h3
    exact E.dom p O.m hp
  have down : ∀ {δ2 : DEnv} {H2 : Hp}, Stp (M.and p) δ1 σ H1 δ2 H2 → Stp M δ1 σ H1 δ2 H2 := fun {δ2 H2} st => ⟨⟨fun b m => .inl m, fun b o n hb tb => by
    by_cases e : b = p
    · subst e
      exact st.f b o hb np tb
    · exact st.g.k b o (fun m => m.elim n e) hb tb, st.g.n, st.g.t⟩, st.k, st.f⟩
  refine ⟨M.and p, δ1, _, Xd, E1', h1, fun cs δ2 M' vs H2 h2 E2 E2' mm gr st nw => ?_, fun x xs δ' cls dd H' hx E2 st ea => ?_⟩
  · have E2b : EnvOk X.K g M δ2 σ H2 := E2.back E1 st.k fun a m => .inl m
    have g2 : Grow M H M' H2 := by
      refine ⟨fun b m => ?_, fun b o n hb tb => ?_, fun b h => gr.n b (g1.g.n b h), fun b o t h => gr.t b o t (g1.g.t b o t h)⟩
      · rcases gr.1 b m with z | z
        · rcases z with z | z
          · exact .inl z
          · exact .inr (by rw [z]; exact hp)
        · exact .inr (g1.free E E1 z)
      · exact (down st).g.k b o n (g1.g.k b o n hb tb) tb
    refine k (.own (.lst ds) :: cs) δ2 M' (.ref p :: vs) H2 h2 E2b E2' (fun a m => mm a (.inl m)) g2 (g1.trans (down st)) ⟨p, us, vs, rfl, mm p (.inr rfl), hp, st.f p _ hv np nt_lst, r1.grow gr, fun q hq => ?_, nw.base fun q hq => g1.free E E1 hq⟩
    have z := (nw.own hq).2
    intro e
    rw [e, hv] at z
    cases z
  · refine kx x xs δ' cls dd H' hx (E2.back E1 st.k fun a m => .inl m) (g1.trans (down st)) ?_
    obtain ⟨e1, e2⟩ := ea
    refine ⟨e1, e2.imp id fun ⟨nn, a, fs, b1, b2, b3, b4⟩ => ⟨nn, a, fs, b1, fun m => b2 (.inl m), b3, b4.less fun a m => .inl m⟩⟩
def setSt : List Nat → List V → Sg → Sg
  | i :: is, v :: vs, σ => setSt is vs (σ.set i (some v))
  | _, _, σ => σ
def setAll : List Nat → List Cell → DEnv → (DEnv → Prop) → Prop
  | i :: is, c :: cs, δ, Q => slotOk i δ ∧ setAll is cs (δ.set i c) Q
  | [], [], δ, Q => Q δ
  | _, _, _, _ => False
theorem setAll_sound {K : Fr} {M M' : Ad} {H H' : Hp} {Q : DEnv → Prop} : ∀ {is : List Nat} {cs : List Cell} {vs : List V} {δ : DEnv} {σ : Sg}, EnvOk K g M' δ σ H' → News K M H M' H' cs vs → (∀ q, OwnIn q cs vs → g.H0 q = none ∧ NotOwn δ σ q) → setAll is cs δ Q →
    vs.length = is.length ∧ ∃ δ', Q δ' ∧ EnvOk K g M' δ' (setSt is vs σ) H'
  | [], [], vs, δ, σ, E, n, _, h => by
    have e : vs = [] := n
    subst e
    exact ⟨rfl, δ, h, E⟩
  | i :: is, .val d :: cs, vs, δ, σ, E, n, f, h => by
    obtain ⟨v, r, ev, rv, hr⟩ := n
    subst ev
    obtain ⟨so, h⟩ := h
    obtain ⟨hl, z⟩ := setAll_sound (E.setVal rv so) hr (fun q hq => ⟨(f q hq.tail).1, fun j dd hj hs => by
      rcases get_set hj with ⟨_, e, _⟩ | ⟨nj, hj⟩
      · cases e
      · rcases get_set hs with ⟨e, _, _⟩ | ⟨_, hs⟩
        · exact nj e
        · exact (f q hq.tail).2 j dd hj hs⟩) h
    exact ⟨by simp [hl], z⟩
  | i :: is, .own (.lst ds) :: cs, vs, δ, σ, E, n, f, h => by
    obtain ⟨p, us, r, ev, m, hp, a, b, c, hr⟩ := n
    subst ev
    obtain ⟨so, h⟩ := h
    obtain ⟨f1, f2⟩ := f p ⟨0, .lst ds, rfl, rfl⟩
    obtain ⟨hl, z⟩ := setAll_sound (E.setOwn m f1 a b so fun j e hj _ => f2 j e hj) hr (fun q hq => ⟨(f q hq.tail).1, fun j dd hj hs => by
      rcases get_set hj with ⟨ej, e, _⟩ | ⟨nj, hj⟩
      · rcases get_set hs with ⟨_, e2, _⟩ | ⟨n2, _⟩
        · have e3 : q = p := by
            injection e2 with e4
            injection e4
          exact c q hq e3
        · exact n2 ej
      · rcases get_set hs with ⟨e, _, _⟩ | ⟨_, hs⟩
        · exact nj e
        · exact (f q hq.tail).2 j dd hj hs⟩) h
    exact ⟨by simp [hl], z⟩
  | [], .val _ :: _, _, _, _, _, _, _, h => False.elim h
  | [], .emp :: _, _, _, _, _, _, _, h => False.elim h
  | [], .own _ :: _, _, _, _, _, _, _, h => False.elim h
  | _ :: _, [], _, _, _, _, _, _, h => False.elim h
  | _ :: _, .emp :: _, _, _, _, _, h, _, _ => False.elim h
  | _ :: _, .own .non :: _, _, _, _, _, h, _, _ => False.elim h
  | _ :: _, .own (.bl _) :: _, _, _, _, _, h, _, _ => False.elim h
  | _ :: _, .own (.int _) :: _, _, _, _, _, h, _, _ => False.elim h
  | _ :: _, .own (.str _) :: _, _, _, _, _, h, _, _ => False.elim h
  | _ :: _, .own (.tup _) :: _, _, _, _, _, h, _, _ => False.elim h
  | _ :: _, .own (.obj _ _ _) :: _, _, _, _, _, h, _, _ => False.elim h
  | _ :: _, .own (.scr _) :: _, _, _, _, _, h, _, _ => False.elim h
  | _ :: _, .own (.at _) :: _, _, _, _, _, h, _, _ => False.elim h
  | _ :: _, .own (.dct _ _) :: _, _, _, _, _, h, _, _ => False.elim h
  | _ :: _, .own (.dck _ _) :: _, _, _, _, _, h, _, _ => False.elim h
def parD (is : List Nat) (m : DMx) : DSt := fun k δ => m δ (fun cs δ1 => setAll is cs δ1 k.nx) k.ex
theorem par_sound {K : Fr} {is : List Nat} {m : DMx} {T : Ends} {σ : Sg} {H : Hp} (q : cS K g W (parD is m) T σ H) : cM K g W m σ H fun vs H1 => vs.length = is.length ∧ T.nx (setSt is vs σ) H1 := by
  obtain ⟨M, δ, k, E, h, S⟩ := q
  refine ⟨M, δ, _, _, E, h, fun cs δ1 M' vs H1 h1 E1 E1' mm gr st nw => ?_, S.exok⟩
  obtain ⟨hl, δ2, h2, E2⟩ := setAll_sound E1' nw (fun q hq => by
    have z := (nw.own hq).2
    refine ⟨E.h0 z, fun j dd hj hs => ?_⟩
    obtain ⟨b, hb⟩ := st.k.own hj
    obtain ⟨p', ds', vs', _, h3, O⟩ := E.own hb
    rw [hs] at h3
    cases h3
    exact E.dom _ O.m z) h1
  exact ⟨hl, S.nx M' δ2 _ H1 h2 E2 gr⟩
theorem ds_par {i j : Nat} {x y : Str} {a b : Expr} {m : DMx} {px py pt : Pos} {kt k2 pt2} (hc : X.calm = true) (hN : X.N.Nodup) (hi : X.N[i]? = some x) (hj : X.N[j]? = some y) (hij : i ≠ j)
    (hx : X.env.scope.names.lookup x = some .local) (hy : X.env.scope.names.lookup y = some .local) (ha : DM X g W [a, b] m)
    (hw : swappedStores [.Tuple [.Name x px, .Name y py] kt pt] (.Tuple [a, b] k2 pt2) X.env = pure (some [x, y]))
    (hs : swapsWithSole [.Tuple [.Name x px, .Name y py] kt pt] (.Tuple [a, b] k2 pt2) pos.line X.env = pure false := by rfl) :
    DS X g W (.Assign [.Tuple [.Name x px, .Name y py] kt pt] (.Tuple [a, b] k2 pt2) pos) (parD [i, j] m) := by
  refine ⟨(ps_par hc hN hi hj hij hx hy ha.pa hw hs).imp fun T σ H q => ?_⟩
  obtain ⟨M, δ, Qd, Xd, E, h, k, kx⟩ := par_sound q
  refine ⟨M, δ, Qd, Xd, E, h, fun cs δ1 M' vs H1 h1 E1 E1' mm gr st nw => ?_, kx⟩
  obtain ⟨hl, hn⟩ := k cs δ1 M' vs H1 h1 E1 E1' mm gr st nw
  match vs, hl, hn with
  | [v, w], _, hn => exact ⟨v, w, rfl, hn⟩
theorem ds_par3 {i j l : Nat} {x y z : Str} {a b c : Expr} {m : DMx} {px py pz pt : Pos} {kt k2 pt2} (hc : X.calm = true) (hN : X.N.Nodup) (hi : X.N[i]? = some x) (hj : X.N[j]? = some y) (hl : X.N[l]? = some z) (hij : i ≠ j) (hil : i ≠ l) (hjl : j ≠ l)
    (hx : X.env.scope.names.lookup x = some .local) (hy : X.env.scope.names.lookup y = some .local) (hz : X.env.scope.names.lookup z = some .local) (ha : DM X g W [a, b, c] m)
    (hw : swappedStores [.Tuple [.Name x px, .Name y py, .Name z pz] kt pt] (.Tuple [a, b, c] k2 pt2) X.env = pure (some [x, y, z]))
    (hs : swapsWithSole [.Tuple [.Name x px, .Name y py, .Name z pz] kt pt] (.Tuple [a, b, c] k2 pt2) pos.line X.env = pure false := by rfl) :
    DS X g W (.Assign [.Tuple [.Name x px, .Name y py, .Name z pz] kt pt] (.Tuple [a, b, c] k2 pt2) pos) (parD [i, j, l] m) := by
  refine ⟨(ps_par3 hc hN hi hj hl hij hil hjl hx hy hz ha.pa hw hs).imp fun T σ H q => ?_⟩
  obtain ⟨M, δ, Qd, Xd, E, h, k, kx⟩ := par_sound q
  refine ⟨M, δ, Qd, Xd, E, h, fun cs δ1 M' vs H1 h1 E1 E1' mm gr st nw => ?_, kx⟩
  obtain ⟨hl, hn⟩ := k cs δ1 M' vs H1 h1 E1 E1' mm gr st nw
  match vs, hl, hn with
  | [v, w, u], _, hn => exact ⟨v, w, u, rfl, hn⟩
end
end Dn

set_option Elab.async false
set_option linter.all false
set_option maxRecDepth 100000
set_option maxHeartbeats 4000000
namespace Dn
open PySem PySem.Spec PyProof.Rows L2
section
variable {X : Cx} {g : GX} {W : WX} {exp : Expr} {pos : Pos}
/-! ### lists looked at -/
def cV (K : Fr) (g : GX) (W : WX) (e : DFx) : TE := fun σ H Q => ∃ M δ Qd Xd, EnvOk K g M δ σ H ∧ e δ Qd Xd ∧
  (∀ ds δ' a vs H', Qd ds δ' → EnvOk K g M δ' σ H' → Stp M δ σ H δ' H' → SqL K H' a vs → Reps K M H' ds vs → Q (.ref a) H') ∧ ExOk K g W M δ σ H Xd
structure DV (X : Cx) (g : GX) (W : WX) (exp : Expr) (e : DFx) : Prop where
  pe : PE X exp (cV X.K g W e)
def ownV (i : Nat) : DFx := fun δ Q _ => match (δ[i]? : Option Cell) with
  | some (.own (.lst ds)) => Q ds δ
  | _ => False
theorem dv_own {i : Nat} {x : Str} (h : PE X (.Name x pos) (tVar i)) : DV X g W (.Name x pos) (ownV i) := by
  refine ⟨h.imp fun σ H Q q => ?_⟩
  obtain ⟨M, δ, Qd, Xd, E, he, k, _⟩ := q
  unfold ownV at he
  split at he
  · rename_i ds e
    obtain ⟨p, ds', vs, e1, h1, O⟩ := E.own e
    cases e1
    exact ⟨_, h1, k _ δ p vs H he E (Stp.refl _ _ _ _) (.of O.at_) O.reps⟩
  · exact False.elim he
def lstV (e : DEx) : DFx := fun δ Q Xd => e δ (fun d δ1 => onLst (fun ds => Q ds δ1) d) Xd
theorem DE.view {e : DEx} (h : DE X g W exp e) : DV X g W exp (lstV e) := by
  refine ⟨h.pe.imp fun σ H Q q => ?_⟩
  obtain ⟨M, δ, Qd, Xd, E, he, k, kx⟩ := q
  refine ⟨M, δ, _, Xd, E, he, fun d δ1 v H1 h1 E1 g1 r1 => ?_, kx⟩
  obtain ⟨ds, a, vs, _, ev, l, rs, hq⟩ := lst_of r1 h1
  subst ev
  exact k ds δ1 a vs H1 hq E1 g1 l.sq rs
def onScr (P : List Int → Prop) : D → Prop
  | .scr ns => P ns
  | _ => False
def scrV (e : DEx) : DFx := fun δ Q Xd => e δ (fun d δ1 => onScr (fun ns => Q (ns.map D.int) δ1) d) Xd
theorem reps_ints {K : Fr} {M : Ad} {H : Hp} : ∀ ns : List Int, Reps K M H (ns.map D.int) (ns.map V.int)
  | [] => rfl
  | n :: ns => ⟨.int n, ns.map V.int, rfl, rfl, reps_ints ns⟩
theorem DE.scr {e : DEx} (h : DE X g W exp e) : DV X g W exp (scrV e) := by
  refine ⟨h.pe.imp fun σ H Q q => ?_⟩
  obtain ⟨M, δ, Qd, Xd, E, he, k, kx⟩ := q
  refine ⟨M, δ, _, Xd, E, he, fun d δ1 v H1 h1 E1 g1 r1 => ?_, kx⟩
  cases d with
  | scr ns =>
    obtain ⟨a, ev, l⟩ := r1
    subst ev
    exact k _ δ1 a _ H1 h1 E1 g1 l.sq (reps_ints ns)
  | _ => exact False.elim h1
/-! ### built-ins by their arguments -/
abbrev DC := List D → (D → Prop) → Prop
def CROk (K : Fr) (r : List V → Hp → VK → Prop) (f : DC) : Prop := ∀ (M : Ad) (H : Hp) (ds : List D) (vs : List V) (Q : VK) (P : D → Prop), (∀ a, M a → H a ≠ none) → Reps K M H ds vs → f ds P → (∀ z w H', P z → Same H H' → Rep K M H' z w → Q w H') → r vs H Q
def callBD (f : DC) (as : DAx) : DEx := fun δ Q Xd => as δ (fun ds δ1 => f ds fun z => Q z δ1) Xd
theorem cb_sound {K : Fr} {r : List V → Hp → VK → Prop} {f : DC} {as : DAx} (hr : CROk K r f) {σ : Sg} {H : Hp} {Q : VK} (q : cE K g W (callBD f as) σ H Q) : tCB r (cA K g W as) σ H Q := by
  obtain ⟨M, δ, Qd, Xd, E, he, k, kx⟩ := q
  refine ⟨M, δ, _, Xd, E, he, fun ds δ1 vs H1 h1 E1 g1 r1 => ?_, kx⟩
  exact hr M H1 ds vs Q _ E1.dom r1 h1 (op_end (W := W) E1 g1 (fun _ z => z) k)
theorem de_callB {x : Str} {e : Expr} {es : List Expr} {p : Pos} {id : String} {r : List V → Hp → VK → Prop} {f : DC} {as : DAx} (hc : CallR X (.builtin id) r) (hr : CROk X.K r f) (hg : Gl X x) (hm : X.mg x = none) (hv : bootBuiltins x = some (.builtin id)) (ha : DA X g W (e :: es) as) (hn : x ≠ "__name__" := by decide) (hdb : (x == ("__debug__" : Str)) = false := by decide)
    (he : starEach (e :: es) X.env = (false, eval e X.env) :: starEach es X.env := by rfl) (hpl : (backTo pos (starEach es X.env)).any (·.1) = false := by rfl) : DE X g W (.Call (.Name x p) (e :: es) [] pos) (callBD f as) :=
  ⟨(pe_callB hc hg hm hv ha.pa hn hdb he hpl).imp fun _ _ _ q => cb_sound hr q⟩
theorem de_callTy {x : Str} {e : Expr} {es : List Expr} {p : Pos} {id : String} {r : List V → Hp → VK → Prop} {f : DC} {as : DAx} (hc : CallR X (.type id) r) (hr : CROk X.K r f) (hg : Gl X x) (hm : X.mg x = none) (hv : bootBuiltins x = some (.type id)) (ha : DA X g W (e :: es) as) (hn : x ≠ "__name__" := by decide) (hdb : (x == ("__debug__" : Str)) = false := by decide)
    (he : starEach (e :: es) X.env = (false, eval e X.env) :: starEach es X.env := by rfl) (hpl : (backTo pos (starEach es X.env)).any (·.1) = false := by rfl) : DE X g W (.Call (.Name x p) (e :: es) [] pos) (callBD f as) :=
  ⟨(pe_callTy hc hg hm hv ha.pa hn hdb he hpl).imp fun _ _ _ q => cb_sound hr q⟩
/-- a built-in of one list that is looked at -/
def VROk (K : Fr) (r : List V → Hp → VK → Prop) (f : DC) : Prop := ∀ (M : Ad) (H : Hp) (ds : List D) (a : Addr) (vs : List V) (Q : VK) (P : D → Prop), (∀ a, M a → H a ≠ none) → SqL K H a vs → Reps K M H ds vs → f ds P → (∀ z w H', P z → Same H H' → Rep K M H' z w → Q w H') → r [.ref a] H Q
def viewD (f : DC) (e : DFx) : DEx := fun δ Q Xd => e δ (fun ds δ1 => f ds fun z => Q z δ1) Xd
theorem view_sound {K : Fr} {r : List V → Hp → VK → Prop} {f : DC} {ef : DFx} (hr : VROk K r f) {σ : Sg} {H : Hp} {Q : VK} (q : cE K g W (viewD f ef) σ H Q) : tCB r (tCons (cV K g W ef) tNil) σ H Q := by
  obtain ⟨M, δ, Qd, Xd, E, he, k, kx⟩ := q
  refine ⟨M, δ, _, Xd, E, he, fun ds δ1 a vs H1 h1 E1 g1 s1 r1 => ?_, kx⟩
  exact hr M H1 ds a vs Q _ E1.dom s1 r1 h1 (op_end (W := W) E1 g1 (fun _ z => z) k)
theorem de_viewB {x : Str} {e : Expr} {p : Pos} {id : String} {r : List V → Hp → VK → Prop} {f : DC} {ef : DFx} (hc : CallR X (.builtin id) r) (hr : VROk X.K r f) (hg : Gl X x) (hm : X.mg x = none) (hv : bootBuiltins x = some (.builtin id)) (ha : DV X g W e ef) (hn : x ≠ "__name__" := by decide) (hdb : (x == ("__debug__" : Str)) = false := by decide)
    (he : starEach [e] X.env = (false, eval e X.env) :: starEach [] X.env := by rfl) (hpl : (backTo pos (starEach [] X.env)).any (·.1) = false := by rfl) : DE X g W (.Call (.Name x p) [e] [] pos) (viewD f ef) :=
  ⟨(pe_callB hc hg hm hv (pa_cons ha.pe pa_nil he) hn hdb he hpl).imp fun _ _ _ q => view_sound hr q⟩
theorem de_viewTy {x : Str} {e : Expr} {p : Pos} {id : String} {r : List V → Hp → VK → Prop} {f : DC} {ef : DFx} (hc : CallR X (.type id) r) (hr : VROk X.K r f) (hg : Gl X x) (hm : X.mg x = none) (hv : bootBuiltins x = some (.type id)) (ha : DV X g W e ef) (hn : x ≠ "__name__" := by decide) (hdb : (x == ("__debug__" : Str)) = false := by decide)
    (he : starEach [e] X.env = (false, eval e X.env) :: starEach [] X.env := by rfl) (hpl : (backTo pos (starEach [] X.env)).any (·.1) = false := by rfl) : DE X g W (.Call (.Name x p) [e] [] pos) (viewD f ef) :=
  ⟨(pe_callTy hc hg hm hv (pa_cons ha.pe pa_nil he) hn hdb he hpl).imp fun _ _ _ q => view_sound hr q⟩
/-! ### operators -/
def fI (f : Int → Int → D) : D2 := fun x y P => onI (fun i => onI (fun j => P (f i j)) y) x
def fIc (c : Int → Int → Prop) (f : Int → Int → D) : D2 := fun x y P => onI (fun i => onI (fun j => c i j ∧ P (f i j)) y) x
theorem r2_I {K : Fr} {f : Int → Int → V} {h : Int → Int → D} (e : ∀ i j M H, Rep K M H (h i j) (f i j)) : R2Ok K (rI0 f) (fI h) := fun M H x y v u Q P _ r1 r2 hf k => by
  obtain ⟨i, ei, h1⟩ := int_of r1 hf
  obtain ⟨j, ej, h2⟩ := int_of r2 h1
  exact ⟨i, j, ei, ej, k _ _ H h2 (Same.refl _) (e i j M H)⟩
theorem r2_Ic {K : Fr} {c c' : Int → Int → Prop} {f : Int → Int → V} {h : Int → Int → D} (hc : ∀ i j, c' i j → c i j) (e : ∀ i j M H, Rep K M H (h i j) (f i j)) : R2Ok K (rI c f) (fIc c' h) := fun M H x y v u Q P _ r1 r2 hf k => by
  obtain ⟨i, ei, h1⟩ := int_of r1 hf
  obtain ⟨j, ej, hcc, h2⟩ := int_of r2 h1
  exact ⟨i, j, ei, ej, hc i j hcc, k _ _ H h2 (Same.refl _) (e i j M H)⟩
abbrev dAdd : D2 := fI fun i j => .int (i + j)
abbrev dSub : D2 := fI fun i j => .int (i - j)
/-- one of both below a great bound -/
def bits (i : Int) : Prop := i.natAbs < 2 ^ 2000000
def mulOk (i j : Int) : Prop := bits i ∧ bits j
def BMul (i j : Int) : Prop := IntMulOk i j
theorem op_mulB : OpR X (binaryOp .Mult) (rI BMul fun i j => .int (i * j)) := opI fun _ _ _ _ _ _ _ hc q => mul_int q hc
theorem bits_le {i : Int} (h : bits i) : Builtin.Int.intBits i ≤ 2000000 := by
  unfold Builtin.Int.intBits
  split
  · exact Nat.zero_le _
  · rename_i n
    have n : i.natAbs ≠ 0 := by
      intro z
      simp_all
    have := (Nat.log2_lt n).mpr h
    omega
theorem mulOk.ok {i j : Int} (h : mulOk i j) : BMul i j := by
  have h1 := bits_le h.1
  have h2 := bits_le h.2
  have e : bitsLine = 134217728 := by decide
  unfold BMul IntMulOk
  intro z
  rw [Bool.and_eq_true] at z
  have z2 := z.2
  unfold Builtin.Int.intTooBig at z2
  have z3 := of_decide_eq_true z2
  rw [e] at z3
  omega
abbrev dMul : D2 := fIc mulOk fun i j => .int (i * j)
abbrev dDiv : D2 := fIc (fun _ j => 0 < j ∧ j < 1073741824) fun i j => .int (i / j)
abbrev dMod : D2 := fIc (fun _ j => 0 < j) fun i j => .int (i % j)
abbrev dPow : D2 := fIc (fun i j => 0 ≤ j ∧ j ≤ 1000000 ∧ i.natAbs < 2 ^ 64) fun i j => .int (i ^ j.toNat)
theorem ok_add {K : Fr} : R2Ok K (rI0 fun i j => .int (i + j)) dAdd := r2_I fun _ _ _ _ => rfl
theorem ok_sub {K : Fr} : R2Ok K (rI0 fun i j => .int (i - j)) dSub := r2_I fun _ _ _ _ => rfl
theorem ok_mul {K : Fr} : R2Ok K (rI BMul fun i j => .int (i * j)) dMul := r2_Ic (fun _ _ h => h.ok) fun _ _ _ _ => rfl
theorem ok_div {K : Fr} : R2Ok K (rI CDiv fun i j => .int (i / j)) dDiv := r2_Ic (fun _ _ h => h) fun _ _ _ _ => rfl
theorem ok_mod {K : Fr} : R2Ok K (rI (fun _ j => 0 < j) fun i j => .int (i % j)) dMod := r2_Ic (fun _ _ h => h) fun _ _ _ _ => rfl
theorem ok_pow {K : Fr} : R2Ok K (rI CPow fun i j => .int (i ^ j.toNat)) dPow := r2_Ic (fun _ _ h => h) fun _ _ _ _ => rfl
abbrev dLt : D2 := fI fun i j => .bl (decide (i < j))
abbrev dLe : D2 := fI fun i j => .bl (decide (i ≤ j))
abbrev dGt : D2 := fI fun i j => .bl (decide (j < i))
abbrev dGe : D2 := fI fun i j => .bl (decide (j ≤ i))
theorem ok_lt {K : Fr} : R2Ok K (rI0 fun i j => .bl (decide (i < j))) dLt := r2_I fun _ _ _ _ => rfl
theorem ok_le {K : Fr} : R2Ok K (rI0 fun i j => .bl (decide (i ≤ j))) dLe := r2_I fun _ _ _ _ => rfl
theorem ok_gt {K : Fr} : R2Ok K (rI0 fun i j => .bl (decide (j < i))) dGt := r2_I fun _ _ _ _ => rfl
theorem ok_ge {K : Fr} : R2Ok K (rI0 fun i j => .bl (decide (j ≤ i))) dGe := r2_I fun _ _ _ _ => rfl
/-- == of flat things -/
def flatEq : D → D → Option Bool
  | .int i, .int j => some (decide (i = j))
  | .bl i, .bl j => some (decide (i = j))
  | .str i, .str j => some (decide (i = j))
  | _, _ => none
def onSome {α : Type} (P : α → Prop) : Option α → Prop
  | some a => P a
  | none => False
abbrev dEq : D2 := fun x y P => onSome (fun b => P (.bl b)) (flatEq x y)
abbrev dNe : D2 := fun x y P => onSome (fun b => P (.bl (!b))) (flatEq x y)
theorem flat_eq {K : Fr} {M : Ad} {H : Hp} {x y : D} {v u : V} {b : Bool} (r1 : Rep K M H x v) (r2 : Rep K M H y u) (h : flatEq x y = some b) : scal v u = true ∧ decide (v = u) = b := by
  cases x <;> cases y <;> first
    | (cases h; done)
    | (have e1 := (show _ = _ from r1)
       have e2 := (show _ = _ from r2)
       subst e1 e2
       cases h
       refine ⟨rfl, ?_⟩
       simp)
theorem ok_eq {K : Fr} : R2Ok K rEq dEq := fun M H x y v u Q P _ r1 r2 hf k => by
  cases e : flatEq x y with
  | none =>
    have hf : onSome _ (flatEq x y) := hf
    rw [e] at hf
    exact False.elim hf
  | some b =>
    have hf : onSome (fun b => P (.bl b)) (flatEq x y) := hf
    rw [e] at hf
    obtain ⟨h1, h2⟩ := flat_eq r1 r2 e
    refine ⟨h1, ?_⟩
    rw [h2]
    exact k _ _ H hf (Same.refl _) rfl
theorem ok_ne {K : Fr} : R2Ok K rNe dNe := fun M H x y v u Q P _ r1 r2 hf k => by
  cases e : flatEq x y with
  | none =>
    have hf : onSome _ (flatEq x y) := hf
    rw [e] at hf
    exact False.elim hf
  | some b =>
    have hf : onSome (fun b => P (.bl (!b))) (flatEq x y) := hf
    rw [e] at hf
    obtain ⟨h1, h2⟩ := flat_eq r1 r2 e
    refine ⟨h1, ?_⟩
    rw [h2]
    exact k _ _ H hf (Same.refl _) rfl
/-- is None -/
def isNon : D → Bool
  | .non => true
  | _ => false
abbrev dIsN : D2 := fun x y P => isNon y = true ∧ P (.bl (isNon x))
abbrev dNotN : D2 := fun x y P => isNon y = true ∧ P (.bl (!isNon x))
theorem isNon_iff {K : Fr} {M : Ad} {H : Hp} {x : D} {v : V} (r : Rep K M H x v) : decide (v = .non) = isNon x := by
  cases x with
  | non =>
    have e : v = .non := r
    rw [e]
    rfl
  | bl b => have e : v = .bl b := r; rw [e]; rfl
  | int b => have e : v = .int b := r; rw [e]; rfl
  | str b => have e : v = .str b := r; rw [e]; rfl
  | tup ds => obtain ⟨a, vs, e, _⟩ := r; rw [e]; rfl
  | lst ds => obtain ⟨a, vs, e, _⟩ := r; rw [e]; rfl
  | obj c ns ds => obtain ⟨a, dx, fs, e, _⟩ := r; rw [e]; rfl
  | scr ns => obtain ⟨a, e, _⟩ := r; rw [e]; rfl
  | «at» a => have e : v = .ref a := r; rw [e]; rfl
  | dct ks ds => obtain ⟨a, vs, e, _⟩ := r; rw [e]; rfl
  | dck ks ds => obtain ⟨a, vs, e, _⟩ := r; rw [e]; rfl
theorem ok_isN {K : Fr} : R2Ok K (fun x y H Q => y = .non ∧ Q (.bl (decide (x = .non))) H) dIsN := fun M H x y v u Q P _ r1 r2 ⟨hn, hf⟩ k => by
  have e2 := isNon_iff r2
  rw [hn] at e2
  refine ⟨of_decide_eq_true e2, ?_⟩
  rw [isNon_iff r1]
  exact k _ _ H hf (Same.refl _) rfl
theorem ok_notN {K : Fr} : R2Ok K (fun x y H Q => y = .non ∧ Q (.bl (!decide (x = .non))) H) dNotN := fun M H x y v u Q P _ r1 r2 ⟨hn, hf⟩ k => by
  have e2 := isNon_iff r2
  rw [hn] at e2
  refine ⟨of_decide_eq_true e2, ?_⟩
  rw [isNon_iff r1]
  exact k _ _ H hf (Same.refl _) rfl
end
end Dn

set_option Elab.async false
set_option linter.all false
set_option maxRecDepth 100000
set_option maxHeartbeats 4000000
namespace Dn
open PySem PySem.Spec PyProof.Rows L2
section
variable {X : Cx} {g : GX} {W : WX} {exp : Expr} {pos : Pos}
/-! ### + of lists, of tuples -/
abbrev dCat : D2 := fun x y P => onLst (fun xs => onLst (fun ys => few xs.length ∧ few ys.length ∧ P (.lst (xs ++ ys))) y) x
theorem few2 {a b : Nat} (h1 : few a) (h2 : few b) : a + b ≤ sizeLine := by
  have z1 : a ≤ 1000000 := h1
  have z2 : b ≤ 1000000 := h2
  rw [sizeLine_eq]
  omega
theorem ok_cat {K : Fr} : R2Ok K rCat dCat := fun M H x y v u Q P dom r1 r2 hf k => by
  obtain ⟨xs, a, vs, _, e1, l1, q1, h2⟩ := lst_of r1 hf
  obtain ⟨ys, b, us, _, e2, l2, q2, f1, f2, hp⟩ := lst_of r2 h2
  refine ⟨a, b, vs, us, e1, e2, l1.2, l2.2, by rw [← q1.length, ← q2.length]; exact few2 f1 f2, fun p hn => ?_⟩
  have s := same_upd (o := .lst (vs ++ us)) hn
  exact k _ _ _ hp s ⟨p, _, rfl, ⟨not_dom dom hn, upd_same⟩, (q1.append q2).grow (Grow.of_same s)⟩
abbrev dCatT : D2 := fun x y P => onTup (fun xs => onTup (fun ys => few xs.length ∧ few ys.length ∧ P (.tup (xs ++ ys))) y) x
theorem ok_catT {K : Fr} : R2Ok K (rCatA K) dCatT := fun M H x y v u Q P dom r1 r2 hf k => by
  obtain ⟨xs, a, vs, ex, e1, l1, q1, h2⟩ := tup_of r1 hf
  obtain ⟨ys, b, us, ey, e2, l2, q2, f1, f2, hp⟩ := tup_of r2 h2
  refine ⟨a, b, vs, us, e1, e2, l1.sq, l2.sq, by rw [← q1.length, ← q2.length]; exact few2 f1 f2, fun z => ?_, fun _ z => ?_, fun _ _ p hn => ?_⟩
  · have z0 : xs = [] := List.eq_nil_of_length_eq_zero (by rw [q1.length, z]; rfl)
    subst z0
    subst ey
    rw [← e2]
    exact k _ _ H hp (Same.refl _) r2
  · have z0 : ys = [] := List.eq_nil_of_length_eq_zero (by rw [q2.length, z]; rfl)
    subst z0
    subst ex
    rw [List.append_nil] at hp
    rw [← e1]
    exact k _ _ H hp (Same.refl _) r1
  · have s := same_upd (o := .tup (vs ++ us)) hn
    exact k _ _ _ hp s ⟨p, _, rfl, .inl (.inl upd_same), (q1.append q2).grow (Grow.of_same s)⟩
/-- a list so many times -/
abbrev dRep : D2 := fun x y P => onLst (fun xs => onI (fun n => small n ∧ few (xs.length * n.toNat) ∧ P (.lst (List.replicate n.toNat xs).flatten)) y) x
theorem small.lo3 {i : Int} (h : small i) : -(2 ^ 63) ≤ i := Int.le_trans (by decide) h.1
theorem small.hi3 {i : Int} (h : small i) : i < 2 ^ 63 := Int.lt_of_le_of_lt h.2 (by decide)
theorem Reps.rep {K : Fr} {M : Ad} {H : Hp} {xs : List D} {vs : List V} (r : Reps K M H xs vs) : ∀ n : Nat, Reps K M H (List.replicate n xs).flatten (List.replicate n vs).flatten
  | 0 => rfl
  | n + 1 => by
    rw [List.replicate_succ, List.replicate_succ, List.flatten_cons, List.flatten_cons]
    exact r.append (Reps.rep r n)
theorem ok_rep {K : Fr} : R2Ok K rRep dRep := fun M H x y v u Q P dom r1 r2 hf k => by
  obtain ⟨xs, a, vs, _, e1, l1, q1, h2⟩ := lst_of r1 hf
  obtain ⟨n, e2, sm, fw, hp⟩ := int_of r2 h2
  refine ⟨a, n, vs, e1, e2, l1.2, sm.lo3, sm.hi3, by rw [← q1.length]; exact few_line fw, fun p hn => ?_⟩
  have s := same_upd (o := .lst (List.replicate n.toNat vs).flatten) hn
  exact k _ _ _ hp s ⟨p, _, rfl, ⟨not_dom dom hn, upd_same⟩, (q1.rep _).grow (Grow.of_same s)⟩
/-! ### items -/
def ixOf (P : D → Prop) (j : Int) : D → Prop
  | .tup ds => onSome P (atI ds j)
  | .lst ds => onSome P (atI ds j)
  | _ => False
theorem atI_reps {K : Fr} {M : Ad} {H : Hp} {ds : List D} {vs : List V} {j : Int} {P : D → Prop} (r : Reps K M H ds vs) (h : onSome P (atI ds j)) : ∃ d v, atI vs j = some v ∧ Rep K M H d v ∧ P d := by
  cases e : atI ds j with
  | none =>
    rw [e] at h
    exact False.elim h
  | some d =>
    rw [e] at h
    unfold atI at e ⊢
    rw [← r.length]
    cases q : ixN ds.length j with
    | none =>
      rw [q] at e
      cases e
    | some n =>
      rw [q] at e
      have e2 : ds[n]? = some d := e
      obtain ⟨v, hv, rv⟩ := r.get e2
      exact ⟨d, v, hv, rv, h⟩
abbrev dIx : D2 := fun x y P => onI (fun j => ixOf P j x) y
theorem ok_ix {K : Fr} : R2Ok K (fun x y H Q => rIxL K x y H Q ∨ rIxT K x y H Q) dIx := fun M H x y v u Q P dom r1 r2 hf k => by
  obtain ⟨j, ej, h⟩ := int_of r2 hf
  cases x with
  | tup ds =>
    obtain ⟨a, vs, ea, l, r⟩ := r1
    obtain ⟨d, w, hw, rw', hp⟩ := atI_reps r h
    exact .inr ⟨a, vs, j, w, ea, ej, l.sq, hw, k _ _ H hp (Same.refl _) rw'⟩
  | lst ds =>
    obtain ⟨a, vs, ea, l, r⟩ := r1
    obtain ⟨d, w, hw, rw', hp⟩ := atI_reps r h
    exact .inl ⟨a, vs, j, w, ea, ej, l.sq, hw, k _ _ H hp (Same.refl _) rw'⟩
  | _ => exact False.elim h
theorem de_ix {a b : Expr} {ea eb : DEx} (ha : DE X g W a ea) (hb : DE X g W b eb) (hs : PlainIx b) : DE X g W (.Subscript a b pos) (opD dIx ea eb) :=
  ⟨(pe_ix (ix_list.or ix_tup) ha.pe hb.pe hs).imp fun _ _ _ q => two_sound ok_ix q⟩
/-- an item of a list that is looked at -/
def ixV (ea : DFx) (eb : DEx) : DEx := fun δ Q Xd => ea δ (fun ds δ1 => eb δ1 (fun j δ2 => onI (fun j => onSome (fun d => Q d δ2) (atI ds j)) j) Xd) Xd
/-- of an own list, the index being without effects -/
theorem de_ixV {i : Nat} {x : Str} {p : Pos} {b : Expr} {eb : DEx} (ha : PE X (.Name x p) (tVar i)) (hb : DE X g W b eb) (hs : PlainIx b) : DE X g W (.Subscript (.Name x p) b pos) (fun δ Q Xd => ownV i δ (fun _ δ0 => eb δ0 (fun j δ2 => ownV i δ2 (fun ds _ => onI (fun j => onSome (fun d => Q d δ2) (atI ds j)) j) Xd) Xd) Xd) := by
  refine ⟨(pe_ix ix_list ha hb.pe hs).imp fun σ H Q q => ?_⟩
  obtain ⟨M, δ, Qd, Xd, E, he, k, kx⟩ := q
  unfold ownV at he
  split at he
  · rename_i ds e
    obtain ⟨p, ds', vs, e1, h1, O⟩ := E.own e
    refine ⟨_, h1, M, δ, _, Xd, E, he, fun j δ2 w H2 h2 E2 g2 r2 => ?_, kx⟩
    split at h2
    · rename_i ds2 e2
      obtain ⟨p2, ds2', vs2, e3, h3, O2⟩ := E2.own e2
      rw [h1] at h3
      cases h3
      cases e3
      obtain ⟨i', ej, h⟩ := int_of r2 h2
      obtain ⟨d, w2, hw, rw', hp⟩ := atI_reps O2.reps h
      exact ⟨_, vs2, i', w2, rfl, ej, .of O2.at_, hw, k d δ2 w2 H2 hp E2 g2 rw'⟩
    · exact False.elim h2
  · exact False.elim he
/-! ### slices -/
def cutD (ds : List D) (lo hi : Option Int) : List D := (ds.drop (HT.sIx ds.length 0 lo)).take (HT.sIx ds.length ds.length hi - HT.sIx ds.length 0 lo)
theorem Reps.cut {K : Fr} {M : Ad} {H : Hp} {ds : List D} {vs : List V} (r : Reps K M H ds vs) (lo hi : Option Int) : Reps K M H (cutD ds lo hi) (cutV vs lo hi) := by
  unfold cutD cutV
  rw [r.length]
  exact r.drop.take
abbrev DOx := DEnv → (Option Int → DEnv → Prop) → XD → Prop
def cO (K : Fr) (g : GX) (W : WX) (e : DOx) : TO := fun σ H Q => ∃ M δ Qd Xd, EnvOk K g M δ σ H ∧ e δ Qd Xd ∧
  (∀ o δ' H', Qd o δ' → EnvOk K g M δ' σ H' → Stp M δ σ H δ' H' → Q o H') ∧ ExOk K g W M δ σ H Xd
theorem PO.imp' {e : Option Expr} {t t' : TO} (h : PO X e t) (f : ∀ σ H Q, t' σ H Q → t σ H Q) : PO X e t' := ⟨fun pins s σ H Q I q => h.run pins s σ H Q I (f _ _ _ q)⟩
structure DO (X : Cx) (g : GX) (W : WX) (e : Option Expr) (o : DOx) : Prop where
  po : PO X e (cO X.K g W o)
def noO : DOx := fun δ Q _ => Q none δ
def soO (e : DEx) : DOx := fun δ Q Xd => e δ (fun d δ1 => onI (fun i => Q (some i) δ1) d) Xd
theorem do_none : DO X g W none noO := by
  refine ⟨PO.imp' po_none fun σ H Q q => ?_⟩
  obtain ⟨M, δ, Qd, Xd, E, he, k, kx⟩ := q
  exact k none δ H he E (Stp.refl _ _ _ _)
theorem do_some {e : Expr} {ee : DEx} (h : DE X g W e ee) : DO X g W (some e) (soO ee) := by
  refine ⟨PO.imp' (po_some h.pe) fun σ H Q q => ?_⟩
  obtain ⟨M, δ, Qd, Xd, E, he, k, kx⟩ := q
  refine ⟨M, δ, _, Xd, E, he, fun d δ1 v H1 h1 E1 g1 r1 => ?_, kx⟩
  obtain ⟨i, ev, h2⟩ := int_of r1 h1
  exact ⟨i, ev, k _ δ1 H1 h2 E1 g1⟩
/-- of a tuple -/
def slT (e : DEx) (l h : DOx) : DEx := fun δ Q Xd => e δ (fun d δ1 => onTup (fun ds => l δ1 (fun lo δ2 => h δ2 (fun hi δ3 => Q (.tup (cutD ds lo hi)) δ3) Xd) Xd) d) Xd
theorem cut_whole {ds : List D} {lo hi : Option Int} (h : HT.sIx ds.length 0 lo = 0 ∧ HT.sIx ds.length ds.length hi = ds.length) : cutD ds lo hi = ds := by
  unfold cutD
  rw [h.1, h.2]
  simp
theorem de_sliceT {e : Expr} {lo hi : Option Expr} {p2 : Pos} {ee : DEx} {l h : DOx} (he : DE X g W e ee) (hl : DO X g W lo l) (hh : DO X g W hi h) : DE X g W (.Subscript e (.Slice lo hi none p2) pos) (slT ee l h) := by
  refine ⟨(pe_slice sl_tupA he.pe hl.po hh.po).imp fun σ H Q q => ?_⟩
  obtain ⟨M, δ, Qd, Xd, E, h0, k, kx⟩ := q
  refine ⟨M, δ, _, Xd, E, h0, fun d δ1 v H1 h1 E1 g1 r1 => ?_, kx⟩
  obtain ⟨ds, a, vs, ed, ev, t, rs, h2⟩ := tup_of r1 h1
  refine ⟨M, δ1, _, Xd, E1, h2, fun lo δ2 H2 h3 E2 g2 => ?_, kx.grow g1⟩
  refine ⟨M, δ2, _, Xd, E2, h3, fun hi δ3 H3 h4 E3 g3 => ?_, (kx.grow g1).grow g2⟩
  have gg := g2.trans g3
  have rs3 := rs.grow gg.g
  have t3 := t.grow gg.g
  refine ⟨a, vs, ev, t3.sq, fun hw => ?_, fun _ p hn => ?_⟩
  · rw [← rs.length] at hw
    rw [cut_whole hw] at h4
    exact k _ δ3 _ H3 h4 E3 (g1.trans gg) ⟨a, vs, rfl, t3, rs3⟩
  · have s := same_upd (o := .tup (cutV vs lo hi)) hn
    exact k _ δ3 _ _ h4 (E3.same s) ((g1.trans gg).trans (Stp.same s)) ⟨p, _, rfl, .inl (.inl upd_same), (rs3.cut lo hi).grow (Grow.of_same s)⟩
/-- of a list that is looked at: a new list -/
def slF (e : DEx) (l h : DOx) : DFx := fun δ Q Xd => e δ (fun d δ1 => onLst (fun ds => l δ1 (fun lo δ2 => h δ2 (fun hi δ3 => Q (cutD ds lo hi) δ3) Xd) Xd) d) Xd
theorem df_sliceL {e : Expr} {lo hi : Option Expr} {p2 : Pos} {ee : DEx} {l h : DOx} (he : DE X g W e ee) (hl : DO X g W lo l) (hh : DO X g W hi h) : DF X g W (.Subscript e (.Slice lo hi none p2) pos) (slF ee l h) := by
  refine ⟨(pe_slice sl_list he.pe hl.po hh.po).imp fun σ H Q q => ?_⟩
  obtain ⟨M, δ, Qd, Xd, E, h0, k, kx⟩ := q
  refine ⟨M, δ, _, Xd, E, h0, fun d δ1 v H1 h1 E1 g1 r1 => ?_, kx⟩
  obtain ⟨ds, a, vs, ed, ev, t, rs, h2⟩ := lst_of r1 h1
  refine ⟨M, δ1, _, Xd, E1, h2, fun lo δ2 H2 h3 E2 g2 => ?_, kx.grow g1⟩
  refine ⟨M, δ2, _, Xd, E2, h3, fun hi δ3 H3 h4 E3 g3 => ?_, (kx.grow g1).grow g2⟩
  have gg := g2.trans g3
  exact ⟨a, vs, ev, (t.grow gg.g).sq, fun p hn => new_list E E3 (g1.trans gg) h4 ((rs.grow gg.g).cut lo hi) hn k⟩
/-- of the script -/
def slS (e : DEx) (l h : DOx) : DFx := fun δ Q Xd => e δ (fun d δ1 => onScr (fun ns => l δ1 (fun lo δ2 => h δ2 (fun hi δ3 => Q (cutD (ns.map D.int) lo hi) δ3) Xd) Xd) d) Xd
theorem df_sliceS {e : Expr} {lo hi : Option Expr} {p2 : Pos} {ee : DEx} {l h : DOx} (he : DE X g W e ee) (hl : DO X g W lo l) (hh : DO X g W hi h) : DF X g W (.Subscript e (.Slice lo hi none p2) pos) (slS ee l h) := by
  refine ⟨(pe_slice sl_list he.pe hl.po hh.po).imp fun σ H Q q => ?_⟩
  obtain ⟨M, δ, Qd, Xd, E, h0, k, kx⟩ := q
  refine ⟨M, δ, _, Xd, E, h0, fun d δ1 v H1 h1 E1 g1 r1 => ?_, kx⟩
  cases d with
  | scr ns =>
    obtain ⟨a, ev, t⟩ := r1
    refine ⟨M, δ1, _, Xd, E1, h1, fun lo δ2 H2 h3 E2 g2 => ?_, kx.grow g1⟩
    refine ⟨M, δ2, _, Xd, E2, h3, fun hi δ3 H3 h4 E3 g3 => ?_, (kx.grow g1).grow g2⟩
    have gg := g2.trans g3
    exact ⟨a, _, ev, (t.grow gg.g).sq, fun p hn => new_list E E3 (g1.trans gg) h4 ((reps_ints ns).cut lo hi) hn k⟩
  | _ => exact False.elim h1
/-! ### built-ins -/
def lenOf (P : D → Prop) : D → Prop
  | .tup ds => P (.int ds.length)
  | .lst ds => P (.int ds.length)
  | .str x => few x.length ∧ P (.int x.length)
  | _ => False
abbrev cLen : DC := fun ds P => on1 (lenOf P) ds
theorem ok_len {K : Fr} : CROk K (fun xs H Q => ∃ x n, xs = [x] ∧ LenV K x H n ∧ Q (.int n) H) cLen := fun M H ds vs Q P dom r hf k => by
  obtain ⟨d, v, _, ev, rv, h⟩ := one_of r hf
  cases d with
  | tup es =>
    obtain ⟨a, us, ea, t, rs⟩ := rv
    refine ⟨v, us.length, ev, ?_, ?_⟩
    · rw [ea]
      exact .inr ⟨us, t.sq, rfl⟩
    · rw [← rs.length]
      exact k _ _ H h (Same.refl _) rfl
  | lst es =>
    obtain ⟨a, us, ea, t, rs⟩ := rv
    refine ⟨v, us.length, ev, ?_, ?_⟩
    · rw [ea]
      exact .inl ⟨us, t.sq, rfl⟩
    · rw [← rs.length]
      exact k _ _ H h (Same.refl _) rfl
  | str x =>
    have e : v = .str x := rv
    refine ⟨v, x.length, ev, ?_, k _ _ H h.2 (Same.refl _) rfl⟩
    rw [e]
    exact ⟨few_line h.1, rfl⟩
  | _ => exact False.elim h
abbrev vLen : DC := fun ds P => P (.int ds.length)
theorem ok_vlen {K : Fr} : VROk K (fun xs H Q => ∃ x n, xs = [x] ∧ LenV K x H n ∧ Q (.int n) H) vLen := fun M H ds a vs Q P dom s r hf k => by
  refine ⟨.ref a, vs.length, rfl, .inl ⟨vs, s, rfl⟩, ?_⟩
  rw [← r.length]
  exact k _ _ H hf (Same.refl _) rfl
abbrev cAbs : DC := fun ds P => on1 (onI fun i => P (.int (if i < 0 then -i else i))) ds
theorem ok_abs {K : Fr} : CROk K (fun xs H Q => ∃ i, xs = [.int i] ∧ Q (.int (if i < 0 then -i else i)) H) cAbs := fun M H ds vs Q P dom r hf k => by
  obtain ⟨d, v, _, ev, rv, h⟩ := one_of r hf
  obtain ⟨i, ei, h⟩ := int_of rv h
  exact ⟨i, by rw [ev, ei], k _ _ H h (Same.refl _) rfl⟩
abbrev cMax2 : DC := fun ds P => on2 (fun x y => onI (fun i => onI (fun j => P (.int (if j > i then j else i))) y) x) ds
abbrev cMin2 : DC := fun ds P => on2 (fun x y => onI (fun i => onI (fun j => P (.int (if j < i then j else i))) y) x) ds
theorem ok_max2 {K : Fr} : CROk K (fun xs H Q => ∃ i j, xs = [.int i, .int j] ∧ Q (.int (if j > i then j else i)) H) cMax2 := fun M H ds vs Q P dom r hf k => by
  obtain ⟨d, e, v, w, _, ev, r1, r2, h⟩ := two_of r hf
  obtain ⟨i, ei, h⟩ := int_of r1 h
  obtain ⟨j, ej, h⟩ := int_of r2 h
  exact ⟨i, j, by rw [ev, ei, ej], k _ _ H h (Same.refl _) rfl⟩
theorem ok_min2 {K : Fr} : CROk K (fun xs H Q => ∃ i j, xs = [.int i, .int j] ∧ Q (.int (if j < i then j else i)) H) cMin2 := fun M H ds vs Q P dom r hf k => by
  obtain ⟨d, e, v, w, _, ev, r1, r2, h⟩ := two_of r hf
  obtain ⟨i, ei, h⟩ := int_of r1 h
  obtain ⟨j, ej, h⟩ := int_of r2 h
  exact ⟨i, j, by rw [ev, ei, ej], k _ _ H h (Same.refl _) rfl⟩
def intOf (P : D → Prop) : D → Prop
  | .int i => P (.int i)
  | .bl b => P (.int (if b then 1 else 0))
  | _ => False
abbrev cInt : DC := fun ds P => on1 (intOf P) ds
theorem ok_int {K : Fr} : CROk K (fun xs H Q => (∃ i, xs = [.int i] ∧ Q (.int i) H) ∨ ∃ k, xs = [.bl k] ∧ Q (.int (if k then 1 else 0)) H) cInt := fun M H ds vs Q P dom r hf k => by
  obtain ⟨d, v, _, ev, rv, h⟩ := one_of r hf
  cases d with
  | int i =>
    have e : v = .int i := rv
    exact .inl ⟨i, by rw [ev, e], k _ _ H h (Same.refl _) rfl⟩
  | bl b =>
    have e : v = .bl b := rv
    exact .inr ⟨b, by rw [ev, e], k _ _ H h (Same.refl _) rfl⟩
  | _ => exact False.elim h
def dInts : List D → Option (List Int)
  | [] => some []
  | .int i :: r => (dInts r).map (i :: ·)
  | _ => none
def dBls : List D → Option (List Bool)
  | [] => some []
  | .bl i :: r => (dBls r).map (i :: ·)
  | _ => none
theorem dInts_map : ∀ ns : List Int, dInts (ns.map D.int) = some ns
  | [] => rfl
  | n :: ns => by
    show (dInts (ns.map D.int)).map (n :: ·) = _
    rw [dInts_map ns]
    rfl
theorem dBls_map : ∀ ns : List Bool, dBls (ns.map D.bl) = some ns
  | [] => rfl
  | n :: ns => by
    show (dBls (ns.map D.bl)).map (n :: ·) = _
    rw [dBls_map ns]
    rfl
theorem dInts_reps {K : Fr} {M : Ad} {H : Hp} : ∀ {ds : List D} {vs : List V} {ns : List Int}, Reps K M H ds vs → dInts ds = some ns → vs = ns.map V.int
  | [], vs, ns, r, h => by
    cases h
    exact r
  | d :: ds, vs, ns, r, h => by
    obtain ⟨v, w, e, r1, r2⟩ := r
    cases d with
    | int i =>
      have h : (dInts ds).map (i :: ·) = some ns := h
      cases q : dInts ds with
      | none => rw [q] at h; cases h
      | some ms =>
        rw [q] at h
        cases h
        have e1 : v = .int i := r1
        rw [e, e1, dInts_reps r2 q]
        rfl
    | _ => cases h
theorem dBls_reps {K : Fr} {M : Ad} {H : Hp} : ∀ {ds : List D} {vs : List V} {ns : List Bool}, Reps K M H ds vs → dBls ds = some ns → vs = ns.map V.bl
  | [], vs, ns, r, h => by
    cases h
    exact r
  | d :: ds, vs, ns, r, h => by
    obtain ⟨v, w, e, r1, r2⟩ := r
    cases d with
    | bl i =>
      have h : (dBls ds).map (i :: ·) = some ns := h
      cases q : dBls ds with
      | none => rw [q] at h; cases h
      | some ms =>
        rw [q] at h
        cases h
        have e1 : v = .bl i := r1
        rw [e, e1, dBls_reps r2 q]
        rfl
    | _ => cases h
theorem onSome_of {α : Type} {P : α → Prop} {o : Option α} (h : onSome P o) : ∃ a, o = some a ∧ P a := by
  cases o with
  | none => exact False.elim h
  | some a => exact ⟨a, rfl, h⟩
abbrev vSum : DC := fun ds P => onSome (fun ns => P (.int ns.sum)) (dInts ds)
abbrev vAll : DC := fun ds P => onSome (fun bs => P (.bl (bs.all id))) (dBls ds)
abbrev vAny : DC := fun ds P => onSome (fun bs => P (.bl (bs.any id))) (dBls ds)
theorem ok_sum {K : Fr} : VROk K (rSum K) vSum := fun M H ds a vs Q P dom s r hf k => by
  obtain ⟨ns, e, h⟩ := onSome_of hf
  rw [dInts_reps r e] at s
  exact ⟨a, ns, rfl, s, k _ _ H h (Same.refl _) rfl⟩
theorem ok_all {K : Fr} : VROk K (rAll K) vAll := fun M H ds a vs Q P dom s r hf k => by
  obtain ⟨ns, e, h⟩ := onSome_of hf
  rw [dBls_reps r e] at s
  exact ⟨a, ns, rfl, s, k _ _ H h (Same.refl _) rfl⟩
theorem ok_any {K : Fr} : VROk K (rAny K) vAny := fun M H ds a vs Q P dom s r hf k => by
  obtain ⟨ns, e, h⟩ := onSome_of hf
  rw [dBls_reps r e] at s
  exact ⟨a, ns, rfl, s, k _ _ H h (Same.refl _) rfl⟩
/-- the greatest, the least of a list of dInts -/
abbrev vMax : DC := fun ds P => onSome (fun ns => 0 < ns.length ∧ ∀ m, m ∈ ns → (∀ y, y ∈ ns → y ≤ m) → P (.int m)) (dInts ds)
theorem ok_max {K : Fr} : VROk K (rMax K) vMax := fun M H ds a vs Q P dom s r hf k => by
  obtain ⟨ns, e, hl, h⟩ := onSome_of hf
  rw [dInts_reps r e] at s
  exact ⟨a, ns, rfl, s, hl, fun m h1 h2 => k _ _ H (h m h1 h2) (Same.refl _) rfl⟩
/-- tuple(list that is looked at): a new tuple -/
abbrev vTup : DC := fun ds P => few ds.length ∧ P (.tup ds)
theorem ok_vtup {K : Fr} : VROk K (fun xs H Q => ∃ p ys, xs = [.ref p] ∧ ((SqL K H p ys ∧ ∀ l, H l = none → Q (.ref l) (upd H l (.tup ys))) ∨ (SqT K H p ys ∧ Q (.ref p) H))) vTup := fun M H ds a vs Q P dom s r hf k => by
  refine ⟨a, vs, rfl, .inl ⟨s, fun p hn => ?_⟩⟩
  have z := same_upd (o := .tup vs) hn
  exact k _ _ _ hf.2 z ⟨p, vs, rfl, .inl (.inl upd_same), r.grow (Grow.of_same z)⟩
/-- list(tuple), list(list): a new list -/
def seqV (e : DEx) : DFx := fun δ Q Xd => e δ (fun d δ1 => (onLst (fun ds => Q ds δ1) d) ∨ (onTup (fun ds => Q ds δ1) d)) Xd
theorem df_list {x : Str} {e : Expr} {p : Pos} {ee : DEx} (hg : Gl X x) (hm : X.mg x = none) (hv : bootBuiltins x = some (.type "list")) (ha : DE X g W e ee) (hn : x ≠ "__name__" := by decide) (hdb : (x == ("__debug__" : Str)) = false := by decide)
    (he : starEach [e] X.env = (false, eval e X.env) :: starEach [] X.env := by rfl) (hpl : (backTo pos (starEach [] X.env)).any (·.1) = false := by rfl) : DF X g W (.Call (.Name x p) [e] [] pos) (seqV ee) := by
  refine ⟨(pe_callTy call_list_of hg hm hv (pa_cons ha.pe pa_nil he) hn hdb he hpl).imp fun σ H Q q => ?_⟩
  obtain ⟨M, δ, Qd, Xd, E, h, k, kx⟩ := q
  refine ⟨M, δ, _, Xd, E, h, fun d δ1 v H1 h1 E1 g1 r1 => ?_, kx⟩
  rcases h1 with h1 | h1
  · obtain ⟨ds, a, vs, _, ev, l, rs, h2⟩ := lst_of r1 h1
    subst ev
    exact ⟨a, vs, rfl, .inl l.sq, fun p hp => new_list E E1 g1 h2 rs hp k⟩
  · obtain ⟨ds, a, vs, _, ev, l, rs, h2⟩ := tup_of r1 h1
    subst ev
    exact ⟨a, vs, rfl, .inr l.sq, fun p hp => new_list E E1 g1 h2 rs hp k⟩
end
end Dn

set_option Elab.async false
set_option linter.all false
set_option maxRecDepth 100000
set_option maxHeartbeats 4000000
namespace Dn
open PySem PySem.Spec PyProof.Rows L2
section
variable {X : Cx} {g : GX} {W : WX} {exp : Expr} {pos : Pos}
/-! ### own lists changed -/
def onOwn (P : List D → Prop) (c : Option Cell) : Prop := match c with
  | some (.own (.lst ds)) => P ds
  | _ => False
theorem own_of {P : List D → Prop} {c : Option Cell} (h : onOwn P c) : ∃ ds, c = some (.own (.lst ds)) ∧ P ds := by
  unfold onOwn at h
  split at h
  · exact ⟨_, rfl, h⟩
  · exact False.elim h
/-- x.append(e) -/
def appD (i : Nat) (e : DEx) : DSt := fun k δ => onOwn (fun _ => e δ (fun d δ1 => onOwn (fun ds => few ds.length ∧ k.nx (δ1.set i (.own (.lst (ds ++ [d]))))) δ1[i]?) k.ex) δ[i]?
theorem ds_append {i : Nat} {x : Str} {p apos cpos : Pos} {e : Expr} {ee : DEx} (hx : PE X (.Name x p) (tVar i)) (he : DE X g W e ee)
    (h : ∀ {t : TA}, PA X [e] t → PS X (.Expr (.Call (.Attribute (.Name x p) "append" apos) [e] [] cpos) pos) (tDrop (tBM X.K "list" rAppend (tVar i) t))) (hq : starEach [e] X.env = (false, eval e X.env) :: starEach [] X.env) :
    DS X g W (.Expr (.Call (.Attribute (.Name x p) "append" apos) [e] [] cpos) pos) (appD i ee) := by
  refine ⟨(h (pa_cons he.pe pa_nil hq)).imp fun T σ H q => ?_⟩
  obtain ⟨M, δ, k, E, h0, S⟩ := q
  obtain ⟨ds0, e0, h0⟩ := own_of h0
  obtain ⟨p0, ds0', vs0, e1, h1, O⟩ := E.own e0
  refine ⟨_, h1, .inl ⟨rfl, _, .of O.at_⟩, M, δ, _, _, E, h0, fun d δ1 v H1 h2 E1 g1 r1 => ?_, S.exok⟩
  obtain ⟨ds, e2, hf, hn⟩ := own_of h2
  obtain ⟨p1, ds', vs, e3, h3, O1⟩ := E1.own e2
  rw [h1] at h3
  cases h3
  cases e3
  obtain ⟨E2, g2⟩ := E1.setOwnTo e2 h1 O1 (O1.reps.append (show Reps X.K M H1 [d] [v] from ⟨v, [], rfl, r1, rfl⟩))
  exact ⟨_, vs, v, rfl, rfl, O1.at_, by rw [← O1.reps.length]; exact few_lt hf, S.nx M _ σ _ hn E2 (g1.g.trans g2.g)⟩
/-- x.extend(list that is data) -/
def extD (i : Nat) (e : DEx) : DSt := fun k δ => onOwn (fun _ => e δ (fun d δ1 => onLst (fun es => onOwn (fun ds => few ds.length ∧ few es.length ∧ k.nx (δ1.set i (.own (.lst (ds ++ es))))) δ1[i]?) d) k.ex) δ[i]?
theorem ds_extend {i : Nat} {x : Str} {p apos cpos : Pos} {e : Expr} {ee : DEx} (hx : PE X (.Name x p) (tVar i)) (he : DE X g W e ee)
    (h : ∀ {t : TA}, PA X [e] t → PS X (.Expr (.Call (.Attribute (.Name x p) "extend" apos) [e] [] cpos) pos) (tDrop (tBM X.K "list" rExtend (tVar i) t))) (hq : starEach [e] X.env = (false, eval e X.env) :: starEach [] X.env) :
    DS X g W (.Expr (.Call (.Attribute (.Name x p) "extend" apos) [e] [] cpos) pos) (extD i ee) := by
  refine ⟨(h (pa_cons he.pe pa_nil hq)).imp fun T σ H q => ?_⟩
  obtain ⟨M, δ, k, E, h0, S⟩ := q
  obtain ⟨ds0, e0, h0⟩ := own_of h0
  obtain ⟨p0, ds0', vs0, e1, h1, O⟩ := E.own e0
  refine ⟨_, h1, .inl ⟨rfl, _, .of O.at_⟩, M, δ, _, _, E, h0, fun d δ1 v H1 h2 E1 g1 r1 => ?_, S.exok⟩
  obtain ⟨es, b, us, _, eb, lb, rb, h2⟩ := lst_of r1 h2
  obtain ⟨ds, e2, hf, hf2, hn⟩ := own_of h2
  obtain ⟨p1, ds', vs, e3, h3, O1⟩ := E1.own e2
  rw [h1] at h3
  cases h3
  cases e3
  obtain ⟨E2, g2⟩ := E1.setOwnTo e2 h1 O1 (O1.reps.append rb)
  subst eb
  exact ⟨_, b, vs, us, rfl, rfl, O1.at_, lb.2, by rw [← O1.reps.length, ← rb.length]; exact few2 hf hf2, S.nx M _ σ _ hn E2 (g1.g.trans g2.g)⟩
/-- x[j] = e -/
def setD (i : Nat) (ej e : DEx) : DSt := fun k δ => e δ (fun d δ1 => onOwn (fun _ => ej δ1 (fun j δ2 => onI (fun j => onOwn (fun ds => onSome (fun n => k.nx (δ2.set i (.own (.lst (ds.set n d))))) (ixN ds.length j)) δ2[i]?) j) k.ex) δ1[i]?) k.ex
theorem ds_setitem {i : Nat} {x : Str} {p tp : Pos} {b e : Expr} {eb ee : DEx} (hx : PE X (.Name x p) (tVar i)) (hb : DE X g W b eb) (he : DE X g W e ee)
    (h : ∀ {te ti : TE}, PE X e te → PE X b ti → PS X (.Assign [.Subscript (.Name x p) b tp] e pos) (tAsg te (gSub (tVar i) ti rSetL))) :
    DS X g W (.Assign [.Subscript (.Name x p) b tp] e pos) (setD i eb ee) := by
  refine ⟨(h he.pe hb.pe).imp fun T σ H q => ?_⟩
  obtain ⟨M, δ, k, E, h0, S⟩ := q
  refine ⟨M, δ, _, _, E, h0, fun d δ1 v H1 h1 E1 g1 r1 => ?_, S.exok⟩
  obtain ⟨ds0, e0, h1⟩ := own_of h1
  obtain ⟨p0, ds0', vs0, e1, h2, O⟩ := E1.own e0
  refine ⟨_, h2, M, δ1, _, _, E1, h1, fun j δ2 w H2 h3 E2 g2 r2 => ?_, (S.exok (δ := δ) (σ := σ)).grow g1⟩
  obtain ⟨jj, ej, h3⟩ := int_of r2 h3
  obtain ⟨ds, e2, h3⟩ := own_of h3
  obtain ⟨n, en, hn⟩ := onSome_of h3
  obtain ⟨p1, ds', vs, e3, h4, O1⟩ := E2.own e2
  rw [h2] at h4
  cases h4
  cases e3
  obtain ⟨E3, g3⟩ := E2.setOwnTo e2 h2 O1 (O1.reps.set (i := n) (r1.grow g2.g))
  refine ⟨_, vs, jj, n, rfl, ej, O1.at_, by rw [← O1.reps.length]; exact en, ?_⟩
  exact S.nx M _ σ _ hn E3 ((g1.g.trans g2.g).trans g3.g)
/-- from here on the list is data: it is changed no more -/
def frzD (i : Nat) (s : DSt) : DSt := fun k δ => onOwn (fun ds => slotOk i δ ∧ s k (δ.set i (.val (.lst ds)))) δ[i]?
theorem EnvOk.freeze {K : Fr} {M : Ad} {δ : DEnv} {σ : Sg} {H : Hp} {i : Nat} {ds : List D} (E : EnvOk K g M δ σ H) (hi : δ[i]? = some (.own (.lst ds))) (so : slotOk i δ) :
    ∃ M', EnvOk K g M' (δ.set i (.val (.lst ds))) σ H ∧ Grow M H M' H := by
  obtain ⟨p, ds', vs, e, hs, O⟩ := E.own hi
  cases e
  have np : ∀ q, g.io = some q → q ≠ p := fun q hq e => by
    obtain ⟨d, h1, h2⟩ := E.ion q hq
    subst e
    have z := E.apart 0 i d _ q h1 hi h2 hs
    exact so.ne h1 z.symm
  have hp0 : g.H0 p = none := by
    rcases O.from_ with z | z
    · exact absurd rfl (np p z.symm)
    · exact z
  have less : ∀ a, (M a ∧ a ≠ p) → M a := fun a h => h.1
  have own : ∀ {j : Nat} {d : D}, (δ.set i (.val (.lst ds)))[j]? = some (.own d) → j ≠ i ∧ δ[j]? = some (.own d) := fun {j d} h => by
    rcases get_set h with ⟨_, e, _⟩ | ⟨n, h⟩
    · cases e
    · exact ⟨n, h⟩
  refine ⟨fun a => M a ∧ a ≠ p, ⟨by rw [List.length_set, E.len], fun a m => E.dom a m.1, fun a h => ⟨E.up a h, fun z => E.d0 a h (by rw [z]; exact hp0)⟩, fun a m => E.new a m.1, E.d0, E.pres, fun j c v h1 h2 => ?_, fun j k d e q h1 h2 h3 h4 => ?_, fun q hq => ?_⟩, ⟨fun b m => .inl m.1, fun _ _ _ h _ => h, fun _ h => h, fun _ _ _ h => h⟩⟩
  · rcases get_set h1 with ⟨e1, e2, _⟩ | ⟨n, h1⟩
    · subst e1 e2
      rw [hs] at h2
      cases h2
      exact ⟨p, vs, rfl, ⟨fun m => m.2 rfl, O.at_⟩, O.reps.less less⟩
    · have q := E.cell j c v h1 h2
      cases c with
      | emp => trivial
      | val d =>
        cases v with
        | none => exact q
        | some v => exact Rep.less q less
      | own d =>
        obtain ⟨p', ds', vs', e, h3, O'⟩ := E.own h1
        subst e
        rw [h2] at h3
        cases h3
        exact ⟨⟨O'.m, fun z => n (E.apart j i _ _ p' h1 hi h2 (by rw [z]; exact hs))⟩, O'.from_, vs', O'.at_, O'.reps.less less⟩
  · exact E.apart j k d e q (own h1).2 (own h2).2 h3 h4
  · obtain ⟨d, h1, h2⟩ := E.ion q hq
    exact ⟨d, by rw [List.getElem?_set_ne (so.ne h1)]; exact h1, h2⟩
theorem dss_freeze {sts : List Stmt} {s : DSt} (i : Nat) (h : DSS X g W sts s) : DSS X g W sts (frzD i s) := by
  refine ⟨h.pss.imp fun T σ H q => ?_⟩
  obtain ⟨M, δ, k, E, h0, S⟩ := q
  obtain ⟨ds, e, so, h1⟩ := own_of h0
  obtain ⟨M', E', gr⟩ := E.freeze e so
  exact ⟨M', _, k, E', h1, S.grow gr⟩
/-- return x, x an own list -/
def retO (i : Nat) : DSt := fun k δ => onOwn (fun ds => slotOk i δ ∧ k.rt (.own (.lst ds)) δ) δ[i]?
theorem ds_retO {i : Nat} {x : Str} {p : Pos} (hx : PE X (.Name x p) (tVar i)) : DS X g W (.Return (some (.Name x p)) pos) (retO i) := by
  refine ⟨(ps_ret hx).imp fun T σ H q => ?_⟩
  obtain ⟨M, δ, k, E, h0, S⟩ := q
  obtain ⟨ds, e, so, h1⟩ := own_of h0
  obtain ⟨p, ds', vs, e1, hs, O⟩ := E.own e
  cases e1
  refine ⟨_, hs, S.rt M (.own (.lst ds)) δ σ _ H h1 E ⟨p, vs, rfl, ?_, O.m, O.at_, O.reps⟩⟩
  rcases O.from_ with z | z
  · obtain ⟨d, h2, h3⟩ := E.ion p z.symm
    have z := E.apart 0 i d _ p h2 e h3 hs
    exact absurd z.symm (so.ne h2)
  · exact z
/-- return of a new list -/
def retF (e : DFx) : DSt := fun k δ => e δ (fun ds δ1 => k.rt (.own (.lst ds)) δ1) k.ex
theorem ds_retF {e : Expr} {ef : DFx} (he : DF X g W e ef) : DS X g W (.Return (some e) pos) (retF ef) := by
  refine ⟨(ps_ret he.pe).imp fun T σ H q => ?_⟩
  obtain ⟨M, δ, k, E, h, S⟩ := q
  exact ⟨M, δ, _, _, E, h, fun ds δ1 p vs H1 h1 E1 E2 st hp hv r => S.rt (M.and p) (.own (.lst ds)) δ1 σ _ H1 h1 E2 ⟨p, vs, rfl, E.h0 hp, .inr rfl, hv, r⟩, S.exok⟩
/-! ### isinstance -/
inductive Ty where
  | int | bool | str | tuple | list
def Ty.s : Ty → String
  | .int => "int"
  | .bool => "bool"
  | .str => "str"
  | .tuple => "tuple"
  | .list => "list"
def isTy : Ty → D → Bool
  | .int, .int _ => true
  | .int, .bl _ => true
  | .bool, .bl _ => true
  | .str, .str _ => true
  | .tuple, .tup _ => true
  | .list, .lst _ => true
  | .list, .scr _ => true
  | _, _ => false
def flatT : D → Bool
  | .obj _ _ _ => false
  | .at _ => false
  | .dct _ _ => false
  | .dck _ _ => false
  | _ => true
def tyN : D → String
  | .non => "NoneType"
  | .bl _ => "bool"
  | .int _ => "int"
  | .str _ => "str"
  | .tup _ => "tuple"
  | _ => "list"
def isN : Ty → String → Bool
  | .int, n => n == "int" || n == "bool"
  | T, n => n == T.s
theorem kit_all : ∀ T : Ty, ∀ n ∈ ["NoneType", "bool", "int", "str", "tuple", "list"], kitB n T.s = some (isN T n) := by
  intro T
  cases T <;> decide +kernel
theorem isTy_n {d : D} (hf : flatT d = true) (T : Ty) : isTy T d = isN T (tyN d) ∧ tyN d ∈ ["NoneType", "bool", "int", "str", "tuple", "list"] := by
  cases d <;> first
    | (cases hf; done)
    | (cases T <;> exact ⟨rfl, by simp [tyN]⟩)
theorem ty_of {K : Fr} {M : Ad} {H : Hp} {d : D} {v : V} (r : Rep K M H d v) (hf : flatT d = true) : TyX K H v (.type (tyN d)) ∧ ∀ T : Ty, PySem.W.kitOne K (.type (tyN d)) (.type T.s) = some (isTy T d) := by
  refine ⟨?_, fun T => ?_⟩
  · cases d with
    | non =>
      have e : v = .non := r
      rw [e]
      exact .base .non
    | bl b =>
      have e : v = .bl b := r
      rw [e]
      exact .base (.bl b)
    | int b =>
      have e : v = .int b := r
      rw [e]
      exact .base (.int b)
    | str b =>
      have e : v = .str b := r
      rw [e]
      exact .base (.str b)
    | tup ds =>
      obtain ⟨a, vs, e, t, _⟩ := r
      rw [e]
      rcases t with (t | ⟨o, t⟩) | ⟨o, its, n, h1, h2, _⟩
      · exact .base (.tup t)
      · exact .fTuple t
      · exact .kTuple h1 h2
    | lst ds =>
      obtain ⟨a, vs, e, t, _⟩ := r
      rw [e]
      exact .base (.lst t.2)
    | obj c ns ds => cases hf
    | «at» a => cases hf
    | dct ks ds => cases hf
    | dck ks ds => cases hf
    | scr ns =>
      obtain ⟨a, e, t⟩ := r
      rw [e]
      rcases t with ⟨_, t | ⟨o, t⟩⟩ | ⟨o, its, n, h1, h2, _⟩
      · exact .base (.lst t)
      · exact .base (.frz t)
      · exact .kList h1 h2
  · obtain ⟨h1, h2⟩ := isTy_n hf T
    rw [h1]
    exact kit_ty (kit_all T _ h2)
def isiD (T : Ty) (e : DEx) : DEx := fun δ Q Xd => e δ (fun d δ1 => flatT d = true ∧ Q (.bl (isTy T d)) δ1) Xd
theorem de_isi {T : Ty} {x c : Str} {e : Expr} {p p2 : Pos} {ee : DEx} (hg : Gl X x) (hm : X.mg x = none) (hv : bootBuiltins x = some (.builtin "isinstance")) (he : DE X g W e ee) (hc : PE X (.Name c p2) (tC (.ty T.s))) (hn : x ≠ "__name__" := by decide) (hdb : (x == ("__debug__" : Str)) = false := by decide)
    (hs : starEach [e, .Name c p2] X.env = (false, eval e X.env) :: starEach [.Name c p2] X.env := by rfl) (hs2 : starEach [.Name c p2] X.env = (false, eval (.Name c p2) X.env) :: starEach [] X.env := by rfl) (hpl : (backTo pos (starEach [.Name c p2] X.env)).any (·.1) = false := by rfl) :
    DE X g W (.Call (.Name x p) [e, .Name c p2] [] pos) (isiD T ee) := by
  refine ⟨(pe_callB call_isi hg hm hv (pa_cons he.pe (pa_cons hc pa_nil hs2) hs) hn hdb hs hpl).imp fun σ H Q q => ?_⟩
  obtain ⟨M, δ, Qd, Xd, E, h, k, kx⟩ := q
  refine ⟨M, δ, _, Xd, E, h, fun d δ1 v H1 h1 E1 g1 r1 => ?_, kx⟩
  obtain ⟨hf, h2⟩ := h1
  obtain ⟨tx, kt⟩ := ty_of r1 hf
  exact ⟨v, .ty T.s, _, .type T.s, isTy T d, rfl, .ty _, tx, kt T, k _ δ1 _ H1 h2 E1 g1 rfl⟩
/-- isinstance(x, (S, T)) -/
def isi2D (S T : Ty) (e : DEx) : DEx := fun δ Q Xd => e δ (fun d δ1 => flatT d = true ∧ Q (.bl (isTy S d || isTy T d)) δ1) Xd
theorem de_isi2 {S T : Ty} {x c c2 : Str} {e : Expr} {p p2 p3 p4 : Pos} {kk : Nat} {ee : DEx} (hg : Gl X x) (hm : X.mg x = none) (hv : bootBuiltins x = some (.builtin "isinstance")) (he : DE X g W e ee) (hc : PE X (.Name c p2) (tC (.ty S.s))) (hc2 : PE X (.Name c2 p3) (tC (.ty T.s))) (hn : x ≠ "__name__" := by decide) (hdb : (x == ("__debug__" : Str)) = false := by decide)
    (hs : starEach [e, .Tuple [.Name c p2, .Name c2 p3] kk p4] X.env = (false, eval e X.env) :: starEach [.Tuple [.Name c p2, .Name c2 p3] kk p4] X.env := by rfl)
    (hs2 : starEach [.Tuple [.Name c p2, .Name c2 p3] kk p4] X.env = (false, eval (.Tuple [.Name c p2, .Name c2 p3] kk p4) X.env) :: starEach [] X.env := by rfl)
    (hs3 : starEach [.Name c p2, .Name c2 p3] X.env = (false, eval (.Name c p2) X.env) :: starEach [.Name c2 p3] X.env := by rfl) (hs4 : starEach [.Name c2 p3] X.env = (false, eval (.Name c2 p3) X.env) :: starEach [] X.env := by rfl)
    (hpl : (backTo pos (starEach [.Tuple [.Name c p2, .Name c2 p3] kk p4] X.env)).any (·.1) = false := by rfl) :
    DE X g W (.Call (.Name x p) [e, .Tuple [.Name c p2, .Name c2 p3] kk p4] [] pos) (isi2D S T ee) := by
  refine ⟨(pe_callB call_isiT hg hm hv (pa_cons he.pe (pa_cons (pe_tup (pa_cons hc (pa_cons hc2 pa_nil hs4) hs3)) pa_nil hs2) hs) hn hdb hs hpl).imp fun σ H Q q => ?_⟩
  obtain ⟨M, δ, Qd, Xd, E, h, k, kx⟩ := q
  refine ⟨M, δ, _, Xd, E, h, fun d δ1 v H1 h1 E1 g1 r1 => ?_, kx⟩
  obtain ⟨hf, h2⟩ := h1
  refine ⟨(show 2 ≤ sizeLine by rw [sizeLine_eq]; decide), fun tp htp => ?_⟩
  have s := same_upd (o := .tup [.ty S.s, .ty T.s]) htp
  have r2 := r1.grow (Grow.of_same s)
  obtain ⟨tx, k1⟩ := ty_of r2 hf
  have E2 := E1.same s
  have fin := fun b (hb : (isTy S d || isTy T d) = b) => k _ δ1 (.bl b) _ h2 E2 (g1.trans (Stp.same s)) (by rw [hb]; rfl)
  refine ⟨v, tp, [.ty S.s, .ty T.s], _, [.type S.s, .type T.s], (isTy S d || isTy T d), rfl, upd_same, .cons (.ty _) (.cons (.ty _) .nil), tx, kitAny_cons (k1 S) (fun hb => ?_) (fun hb => by rw [hb]; rfl), fin _ rfl⟩
  rw [hb]
  exact kitAny_cons (k1 T) (fun hb2 => by rw [hb2]; exact kitAny_nil) (fun hb2 => by rw [hb2]; rfl)
end
end Dn

set_option Elab.async false
set_option linter.all false
set_option maxRecDepth 100000
set_option maxHeartbeats 4000000
namespace Dn
open PySem PySem.Spec PyProof.Rows L2
section
variable {X : Cx} {g : GX} {W : WX} {exp : Expr} {pos : Pos}
/-! ### in -/
def flatD : D → Bool
  | .non => true
  | .bl _ => true
  | .int _ => true
  | .str _ => true
  | _ => false
/-- == of flat data -/
def eqF : D → D → Bool
  | .non, .non => true
  | .bl a, .bl b => a == b
  | .bl a, .int b => (if a then 1 else 0) == b
  | .int a, .bl b => a == (if b then 1 else 0)
  | .int a, .int b => a == b
  | .str a, .str b => a == b
  | _, _ => false
theorem flat_v {K : Fr} {M : Ad} {H : Hp} {d : D} {v : V} (r : Rep K M H d v) (f : flatD d = true) : flatV v = true := by
  cases d with
  | non => have e : v = .non := r; rw [e]; rfl
  | bl b => have e : v = .bl b := r; rw [e]; rfl
  | int b => have e : v = .int b := r; rw [e]; rfl
  | str b => have e : v = .str b := r; rw [e]; rfl
  | _ => cases f
theorem eqF_v {K : Fr} {M : Ad} {H : Hp} {d e : D} {v u : V} (r : Rep K M H d v) (r2 : Rep K M H e u) (f : flatD d = true) (f2 : flatD e = true) : eqV v u = eqF d e := by
  cases d <;> cases e <;> first
    | (cases f; done)
    | (cases f2; done)
    | (have e1 := (show _ = _ from r)
       have e2 := (show _ = _ from r2)
       subst e1 e2
       rfl)
theorem flats_v {K : Fr} {M : Ad} {H : Hp} : ∀ {ds : List D} {vs : List V}, Reps K M H ds vs → ds.all flatD = true → vs.all flatV = true
  | [], vs, r, _ => by
    have e : vs = [] := r
    rw [e]; rfl
  | d :: ds, vs, r, f => by
    obtain ⟨v, w, e, r1, r2⟩ := r
    subst e
    rw [List.all_cons, Bool.and_eq_true] at f ⊢
    exact ⟨flat_v r1 f.1, flats_v r2 f.2⟩
theorem inF_v {K : Fr} {M : Ad} {H : Hp} {x : D} {u : V} (rx : Rep K M H x u) (fx : flatD x = true) : ∀ {ds : List D} {vs : List V}, Reps K M H ds vs → ds.all flatD = true → inV u vs = ds.any fun y => eqF y x
  | [], vs, r, _ => by
    have e : vs = [] := r
    rw [e]; rfl
  | d :: ds, vs, r, f => by
    obtain ⟨v, w, e, r1, r2⟩ := r
    subst e
    rw [List.all_cons, Bool.and_eq_true] at f
    unfold inV
    rw [List.any_cons, List.any_cons, eqF_v r1 rx f.1 fx]
    have z := inF_v rx fx r2 f.2
    unfold inV at z
    rw [z]
def seqOf (P : List D → Prop) : D → Prop
  | .tup ds => P ds
  | .lst ds => P ds
  | _ => False
abbrev dIn (neg : Bool) : D2 := fun x y P => seqOf (fun ds => flatD x = true ∧ ds.all flatD = true ∧ P (.bl (if neg then !(ds.any fun y => eqF y x) else ds.any fun y => eqF y x))) y
theorem ok_in {K : Fr} {neg : Bool} : R2Ok K (rIn K neg) (dIn neg) := fun M H x y v u Q P dom r1 r2 hf k => by
  cases y with
  | tup ds =>
    obtain ⟨a, vs, ea, t, r⟩ := r2
    obtain ⟨f1, f2, hp⟩ := hf
    refine ⟨a, vs, ea, .inr t.sq, flat_v r1 f1, flats_v r f2, ?_⟩
    rw [inF_v r1 f1 r f2]
    exact k _ _ H hp (Same.refl _) rfl
  | lst ds =>
    obtain ⟨a, vs, ea, t, r⟩ := r2
    obtain ⟨f1, f2, hp⟩ := hf
    refine ⟨a, vs, ea, .inl t.sq, flat_v r1 f1, flats_v r f2, ?_⟩
    rw [inF_v r1 f1 r f2]
    exact k _ _ H hp (Same.refl _) rfl
  | _ => exact False.elim hf
/-- the right one a list that is looked at -/
abbrev D2V := D → List D → (D → Prop) → Prop
def V2Ok (K : Fr) (r : R2) (f : D2V) : Prop := ∀ (M : Ad) (H : Hp) (x : D) (ds : List D) (v : V) (a : Addr) (vs : List V) (Q : VK) (P : D → Prop), (∀ a, M a → H a ≠ none) → Rep K M H x v → SqL K H a vs → Reps K M H ds vs → f x ds P →
  (∀ z w H', P z → Same H H' → Rep K M H' z w → Q w H') → r v (.ref a) H Q
def opV (f : D2V) (ea : DEx) (eb : DFx) : DEx := fun δ Q Xd => ea δ (fun x δ1 => eb δ1 (fun ds δ2 => f x ds fun z => Q z δ2) Xd) Xd
theorem twoV_sound {K : Fr} {r : R2} {f : D2V} (hr : V2Ok K r f) {ea : DEx} {eb : DFx} {σ : Sg} {H : Hp} {Q : VK} (q : cE K g W (opV f ea eb) σ H Q) : tOp r (cE K g W ea) (cV K g W eb) σ H Q := by
  obtain ⟨M, δ, Qd, Xd, E, he, k, kx⟩ := q
  refine ⟨M, δ, _, Xd, E, he, fun x δ1 v H1 h1 E1 g1 r1 => ?_, kx⟩
  refine ⟨M, δ1, _, Xd, E1, h1, fun ds δ2 a vs H2 h2 E2 g2 s2 r2 => ?_, kx.grow g1⟩
  exact hr M H2 x ds v a vs Q _ E2.dom (r1.grow g2.g) s2 r2 h2 (op_end (W := W) E2 (g1.trans g2) (fun _ z => z) k)
theorem de_cmpV {op : CmpOp} {r : R2} {f : D2V} {a b : Expr} {ea : DEx} {eb : DFx} (ho : OpR X (compareOp op) r) (hr : V2Ok X.K r f) (ha : DE X g W a ea) (hb : DV X g W b eb) (hm : behindInMarks op b = false) : DE X g W (.Compare a [op] [b] pos) (opV f ea eb) :=
  ⟨(pe_cmpR ho ha.pe hb.pe hm).imp fun _ _ _ q => twoV_sound hr q⟩
theorem dt_cmpV {op : CmpOp} {r : R2} {f : D2V} {a b : Expr} {ea : DEx} {eb : DFx} (ho : OpR X (compareOp op) r) (hr : V2Ok X.K r f) (ha : DE X g W a ea) (hb : DV X g W b eb) (hm : behindInMarks op b = false) : DT X g W (.Compare a [op] [b] pos) (tD (opV f ea eb)) :=
  ⟨(pt_cmpR ho ha.pe hb.pe hm).imp fun σ H Q q => twoV_sound hr (test_sound q)⟩
abbrev vIn (neg : Bool) : D2V := fun x ds P => flatD x = true ∧ ds.all flatD = true ∧ P (.bl (if neg then !(ds.any fun y => eqF y x) else ds.any fun y => eqF y x))
theorem ok_inV {K : Fr} {neg : Bool} : V2Ok K (rIn K neg) (vIn neg) := fun M H x ds v a vs Q P dom r1 s r ⟨f1, f2, hp⟩ k => by
  refine ⟨a, vs, rfl, .inl s, flat_v r1 f1, flats_v r f2, ?_⟩
  rw [inF_v r1 f1 r f2]
  exact k _ _ H hp (Same.refl _) rfl
/-! deep -/
mutual
def toP : D → PyData
  | .non => .none
  | .bl b => .bool b
  | .int i => .int i
  | .str x => .str x
  | .tup ds => .tuple (toPs ds)
  | .lst ds => .list (toPs ds)
  | _ => .none
def toPs : List D → List PyData
  | [] => []
  | d :: ds => toP d :: toPs ds
end
mutual
/-- no object in it -/
def pl : D → Bool
  | .tup ds => pls ds
  | .lst ds => pls ds
  | .at _ => false
  | .dct _ _ => false
  | .dck _ _ => false
  | .obj _ _ _ => false
  | .scr _ => false
  | _ => true
def pls : List D → Bool
  | [] => true
  | d :: ds => pl d && pls ds
end
mutual
theorem rep_dp {K : Fr} {M : Ad} {H : Hp} : ∀ {d : D} {v : V}, Rep K M H d v → pl d = true → Dp K H v (toP d)
  | .non, v, r, _ => by have e : v = .non := r; rw [e]; exact .non
  | .bl b, v, r, _ => by have e : v = .bl b := r; rw [e]; exact .bl b
  | .int b, v, r, _ => by have e : v = .int b := r; rw [e]; exact .int b
  | .str b, v, r, _ => by have e : v = .str b := r; rw [e]; exact .str b
  | .tup ds, v, r, p => by
    obtain ⟨a, vs, e, t, q⟩ := r
    rw [e]
    exact .tup t.sq (reps_dp q p)
  | .lst ds, v, r, p => by
    obtain ⟨a, vs, e, t, q⟩ := r
    rw [e]
    exact .lst t.sq (reps_dp q p)
  | .obj _ _ _, _, _, p => by cases p
  | .scr _, _, _, p => by cases p
  | .at _, _, _, p => by cases p
  | .dct _ _, _, _, p => by cases p
  | .dck _ _, _, _, p => by cases p
theorem reps_dp {K : Fr} {M : Ad} {H : Hp} : ∀ {ds : List D} {vs : List V}, Reps K M H ds vs → pls ds = true → DpAll K H vs (toPs ds)
  | [], vs, r, _ => by have e : vs = [] := r; rw [e]; exact .nil
  | d :: ds, vs, r, p => by
    obtain ⟨v, w, e, r1, r2⟩ := r
    have p' : (pl d && pls ds) = true := p
    rw [Bool.and_eq_true] at p'
    rw [e]
    exact .cons (rep_dp r1 p'.1) (reps_dp r2 p'.2)
end
/-- plain data that == takes -/
def okP (d : D) : Prop := pl d = true ∧ SeqAt.shaped (toP d) = true
abbrev vInD (neg : Bool) : D2V := fun x ds P => okP x ∧ okP (.lst ds) ∧ P (.bl (if neg then !((toPs ds).any fun z => PyData.eqv z (toP x)) else (toPs ds).any fun z => PyData.eqv z (toP x)))
theorem ok_inDV {K : Fr} : V2Ok K (rInD K) (vInD false) := fun M H x ds v a vs Q P dom r1 s r ⟨f1, f2, hp⟩ k =>
  ⟨toP x, toPs ds, rep_dp r1 f1.1, .lst s (reps_dp r f2.1), f1.2, f2.2, k _ _ H hp (Same.refl _) rfl⟩
theorem ok_notInDV {K : Fr} : V2Ok K (rNotInD K) (vInD true) := fun M H x ds v a vs Q P dom r1 s r ⟨f1, f2, hp⟩ k =>
  ⟨toP x, toPs ds, rep_dp r1 f1.1, .lst s (reps_dp r f2.1), f1.2, f2.2, k _ _ H hp (Same.refl _) rfl⟩
abbrev dEqD : D2 := fun x y P => okP x ∧ okP y ∧ P (.bl (PyData.eqv (toP x) (toP y)))
abbrev dNeD : D2 := fun x y P => okP x ∧ okP y ∧ P (.bl (!PyData.eqv (toP x) (toP y)))
theorem ok_eqD {K : Fr} : R2Ok K (rEqD K) dEqD := fun M H x y v u Q P dom r1 r2 ⟨f1, f2, hp⟩ k =>
  ⟨toP x, toP y, rep_dp r1 f1.1, rep_dp r2 f2.1, f1.2, f2.2, k _ _ H hp (Same.refl _) rfl⟩
theorem ok_neD {K : Fr} : R2Ok K (rNeD K) dNeD := fun M H x y v u Q P dom r1 r2 ⟨f1, f2, hp⟩ k =>
  ⟨toP x, toP y, rep_dp r1 f1.1, rep_dp r2 f2.1, f1.2, f2.2, k _ _ H hp (Same.refl _) rfl⟩
/-- a sign in a text -/
abbrev dInS : D2 := fun x y P => onS (fun i => onS (fun j => P (.bl (!(Builtin.Str.occurrences j i 0 j.length 1).isEmpty))) y) x
theorem ok_inS {K : Fr} : R2Ok K (fun x y H Q => ∃ i j, x = .str i ∧ y = .str j ∧ Q (.bl (!(Builtin.Str.occurrences j i 0 j.length 1).isEmpty)) H) dInS := fun M H x y v u Q P dom r1 r2 hf k => by
  obtain ⟨i, ei, h⟩ := str_of r1 hf
  obtain ⟨j, ej, h⟩ := str_of r2 h
  exact ⟨i, j, ei, ej, k _ _ H h (Same.refl _) rfl⟩
/-! ### attributes -/
def fldOf (c f : Str) (P : D → Prop) : D → Prop
  | .obj c' ns ds => c' = c ∧ onSome P ((ns.zip ds).lookup f)
  | _ => False
theorem lookup_reps {K : Fr} {M : Ad} {H : Hp} {f : Str} : ∀ {fs : List (Str × V)} {ds : List D} {d : D}, Reps K M H ds (fs.map (·.2)) → ((fs.map (·.1)).zip ds).lookup f = some d → ∃ v, fs.lookup f = some v ∧ Rep K M H d v
  | [], ds, d, r, h => by simp at h
  | (n, v) :: fs, [], d, r, h => by simp at h
  | (n, v) :: fs, e :: ds, d, r, h => by
    obtain ⟨v', w, e1, r1, r2⟩ := r
    simp only [List.map_cons, List.cons.injEq] at e1
    obtain ⟨e1, e2⟩ := e1
    subst e1 e2
    simp only [List.map_cons, List.zip_cons_cons, List.lookup_cons] at h ⊢
    cases q : f == n with
    | true =>
      rw [q] at h
      cases h
      exact ⟨v, rfl, r1⟩
    | false =>
      rw [q] at h
      exact lookup_reps r2 h
def fldD (c f : Str) (e : DEx) : DEx := fun δ Q Xd => e δ (fun d δ1 => fldOf c f (fun z => Q z δ1) d) Xd
theorem de_fld {e : Expr} {ee : DEx} {c f : Str} (he : DE X g W e ee) (cl : Cls X.K (He.ga X.K c)) (na : NoAttr X.K (He.ga X.K c) f) (hb : attributeBase e f X.env (eval e X.env) = eval e X.env) : DE X g W (.Attribute e f pos) (fldD c f ee) := by
  refine ⟨(pe_fld he.pe hb).imp fun σ H Q q => ?_⟩
  obtain ⟨M, δ, Qd, Xd, E, h, k, kx⟩ := q
  refine ⟨M, δ, _, Xd, E, h, fun d δ1 v H1 h1 E1 g1 r1 => ?_, kx⟩
  cases d with
  | obj c' ns ds =>
    obtain ⟨a, dx, fs, ev, n, ha, hn, r⟩ := r1
    obtain ⟨ec, h2⟩ := h1
    obtain ⟨z, ez, h3⟩ := onSome_of h2
    subst ec hn
    obtain ⟨w, hw, rw'⟩ := lookup_reps r ez
    exact ⟨a, _, dx, fs, w, ev, ha, cl, na, hw, k z δ1 w H1 h3 E1 g1 rw'⟩
  | _ => exact False.elim h1
/-! ### constants of the module -/
theorem de_globI {x : Str} {i : Int} (hg : Gl X x) (hm : ∃ t, X.mg x = some (.int i t)) (hd : (x == ("__debug__" : Str)) = false := by decide) : DE X g W (.Name x pos) (cD (.int i)) := by
  obtain ⟨t, hm⟩ := hm
  exact de_c (pe_glob (v := V.int i) hg hm ⟨t, rfl⟩ hd) fun _ _ => rfl
theorem de_globS {x : Str} {i : Str} (hg : Gl X x) (hm : ∃ t, X.mg x = some (.str i t)) (hd : (x == ("__debug__" : Str)) = false := by decide) : DE X g W (.Name x pos) (cD (.str i)) := by
  obtain ⟨t, hm⟩ := hm
  exact de_c (pe_glob (v := V.str i) hg hm ⟨t, rfl⟩ hd) fun _ _ => rfl
theorem de_globT {x : Str} {ds : List D} {vs : List V} (hg : Gl X x) (hm : X.mg x = some (.ref (He.ga X.K x))) (ht : KTup X.K (He.ga X.K x) vs) (r : ∀ M H, Reps X.K M H ds vs) (hd : (x == ("__debug__" : Str)) = false := by decide) : DE X g W (.Name x pos) (cD (.tup ds)) :=
  de_c (pe_glob (v := .ref (He.ga X.K x)) hg hm rfl hd) fun M H => ⟨_, vs, rfl, .inr ht, r M H⟩
end
end Dn

set_option Elab.async false
set_option linter.all false
set_option maxRecDepth 100000
set_option maxHeartbeats 4000000
namespace Dn
open PySem PySem.Spec PyProof.Rows L2
/-! ### defs: what they promise, over data -/
/-- arguments, the wish of what is handed back, the wish of exceptions -/
abbrev Wp := List D → (Cell → Prop) → (Str → List D → Prop) → Prop
/-- .. of a def whose first argument is a list that it changes: its contents, the other arguments, the wish -/
abbrev WpH := List D → List D → (List D → Cell → Prop) → Prop
/-- behind a call -/
structure Beh (K : Fr) (M : Ad) (H : Hp) (M' : Ad) (H' : Hp) (q : Option Addr) : Prop where
  up : ∀ a, M a → M' a
  new : ∀ a, M' a → M a ∨ H a = none
  dom : ∀ a, M' a → H' a ≠ none
  pres : (∀ b o, H b = some o → some b ≠ q → Nt o → H' b = some o) ∧ (∀ b, H b ≠ none → H' b ≠ none) ∧ TabsOk K H'
def spP (K : Fr) (wp : Wp) : Sp := fun vs H Q E => ∃ (M : Ad) (ds : List D) (Qd : Cell → Prop) (Xd : Str → List D → Prop), (∀ a, M a → H a ≠ none) ∧ TabsOk K H ∧ Reps K M H ds vs ∧ wp ds Qd Xd ∧
  (∀ M' c v H', Qd c → Beh K M H M' H' none → RetOk K ⟨H, M, none⟩ M' H' c v → Q v H') ∧
  (∀ M' x xs cls dd H', Xd x xs → Beh K M H M' H' none → ExcAt K M' H' x xs cls dd → E cls dd H')
def spH (K : Fr) (wp : WpH) : Sp := fun vs H Q E => ∃ (M : Ad) (p : Addr) (us : List V) (hs : List D) (hv : List V) (ds : List D) (Qd : List D → Cell → Prop), vs = .ref p :: us ∧ (∀ a, M a → H a ≠ none) ∧ TabsOk K H ∧ M p ∧ H p = some (.lst hv) ∧ Reps K M H hs hv ∧ Reps K M H ds us ∧ wp hs ds Qd ∧
  (∀ M' hs' hv' c v H', Qd hs' c → Beh K M H M' H' (some p) → H' p = some (.lst hv') → Reps K M' H' hs' hv' → RetOk K ⟨H, M, some p⟩ M' H' c v → Q v H')
def entry (N : List Str) (cs : List Cell) : DEnv := cs ++ List.replicate (N.length - cs.length) .emp
/-- a body's reading, as a promise -/
def wpOf (N : List Str) (n : Nat) (t : DSt) : Wp := fun ds Qd Xd => ds.length = n ∧ t { nx := fun _ => Qd (.val .non), rt := fun c _ => Qd c, bk := fun _ => False, ct := fun _ => False, ex := fun x xs _ => Xd x xs } (entry N (ds.map .val))
def wpHOf (N : List Str) (n : Nat) (t : DSt) : WpH := fun hs ds Qd => ds.length = n ∧ t { nx := fun δ => onOwn (fun hs' => Qd hs' (.val .non)) δ[0]?, rt := fun c δ => onOwn (fun hs' => Qd hs' c) δ[0]?, bk := fun _ => False, ct := fun _ => False, ex := fun _ _ _ => False } (entry N (.own (.lst hs) :: ds.map .val))
theorem start_get {N : List Str} {vs : List V} {i : Nat} {v : V} (h : vs[i]? = some v) : (L2.start N vs)[i]? = some (some v) := by
  unfold L2.start
  have hi : i < vs.length := (List.getElem?_eq_some_iff.mp h).1
  rw [List.getElem?_append_left (by simpa using hi), List.getElem?_map, h]
  rfl
theorem entry_get {N : List Str} {cs : List Cell} {i : Nat} {c : Cell} (h : (entry N cs)[i]? = some c) : cs[i]? = some c ∨ c = .emp := by
  unfold entry at h
  by_cases hi : i < cs.length
  · rw [List.getElem?_append_left hi] at h
    exact .inl h
  · rw [List.getElem?_append_right (by omega), List.getElem?_replicate] at h
    split at h
    · exact .inr (Option.some.inj h).symm
    · cases h
theorem entry_length {N : List Str} {cs : List Cell} {vs : List V} (hl : cs.length = vs.length) : (entry N cs).length = (L2.start N vs).length := by
  unfold entry L2.start
  rw [List.length_append, List.length_replicate, List.length_append, List.length_map, List.length_replicate, hl]
theorem entry_ok {K : Fr} {N : List Str} {M : Ad} {H : Hp} {ds : List D} {vs : List V} (dom : ∀ a, M a → H a ≠ none) (tb : TabsOk K H) (r : Reps K M H ds vs) : EnvOk K ⟨H, M, none⟩ M (entry N (ds.map .val)) (L2.start N vs) H := by
  refine ⟨entry_length (by rw [List.length_map, r.length]), dom, fun _ h => h, fun _ h => .inl h, dom, ⟨fun _ _ h _ _ => h, fun _ h => h, tb⟩, fun i c v h1 h2 => ?_, fun i j d e p h1 => ?_, fun p hp => by cases hp⟩
  · rcases entry_get h1 with h | h
    · rw [List.getElem?_map] at h
      cases e : ds[i]? with
      | none => rw [e] at h; cases h
      | some d =>
        rw [e] at h
        cases h
        obtain ⟨u, hu, ru⟩ := r.get e
        rw [start_get hu] at h2
        cases h2
        exact ru
    · rw [h]
      trivial
  · rcases entry_get h1 with h | h
    · rw [List.getElem?_map] at h
      cases e : ds[i]? with
      | none => rw [e] at h; cases h
      | some d => rw [e] at h; cases h
    · cases h
theorem entryH_ok {K : Fr} {N : List Str} {M : Ad} {H : Hp} {p : Addr} {hs ds : List D} {hv vs : List V} (dom : ∀ a, M a → H a ≠ none) (tb : TabsOk K H) (m : M p) (hp : H p = some (.lst hv)) (rh : Reps K M H hs hv) (r : Reps K M H ds vs) :
    EnvOk K ⟨H, M, some p⟩ M (entry N (.own (.lst hs) :: ds.map .val)) (L2.start N (.ref p :: vs)) H := by
  have own : ∀ {i : Nat} {d : D}, (entry N (.own (.lst hs) :: ds.map .val))[i]? = some (.own d) → i = 0 := fun {i d} h => by
    rcases entry_get h with h | h
    · cases i with
      | zero => rfl
      | succ i =>
        rw [List.getElem?_cons_succ, List.getElem?_map] at h
        cases e : ds[i]? with
        | none => rw [e] at h; cases h
        | some d => rw [e] at h; cases h
    · cases h
  refine ⟨entry_length (by rw [List.length_cons, List.length_map, List.length_cons, r.length]), dom, fun _ h => h, fun _ h => .inl h, dom, ⟨fun _ _ h _ _ => h, fun _ h => h, tb⟩, fun i c v h1 h2 => ?_, fun i j d e q h1 h2 _ _ => (own h1).trans (own h2).symm, fun q hq => ?_⟩
  · rcases entry_get h1 with h | h
    · cases i with
      | zero =>
        cases h
        rw [start_get (show (V.ref p :: vs)[0]? = some (.ref p) from rfl)] at h2
        cases h2
        exact ⟨m, .inl rfl, hv, hp, rh⟩
      | succ i =>
        rw [List.getElem?_cons_succ, List.getElem?_map] at h
        cases e : ds[i]? with
        | none => rw [e] at h; cases h
        | some d =>
          rw [e] at h
          cases h
          obtain ⟨u, hu, ru⟩ := r.get e
          rw [start_get (i := i + 1) (v := u) (by rw [List.getElem?_cons_succ]; exact hu)] at h2
          cases h2
          exact ru
    · rw [h]
      trivial
  · have hq : some p = some q := hq
    cases hq
    exact ⟨.lst hs, rfl, start_get (show (V.ref p :: vs)[0]? = some (.ref p) from rfl)⟩
theorem EnvOk.beh {K : Fr} {H H' : Hp} {M M' : Ad} {q : Option Addr} {δ : DEnv} {σ : Sg} (E : EnvOk K ⟨H, M, q⟩ M' δ σ H') : Beh K M H M' H' q := ⟨E.up, E.new, E.dom, E.pres⟩
section
variable {P : Program} {w : World} {K : PySem.W.Frag} {mg : Str → Option Value} {base : Heap} {x qual : Str} {params : Arguments} {body : List Stmt} {scope : Scope} {dvs : List V} {kws : List (Str × V)} {f : Addr} {fd : FuncData} {N ps : List Str} {k : Nat}
/-- the context of a body -/
abbrev CtxB (P : Program) (w : World) (K : PySem.W.Frag) (mg : Str → Option Value) (base : Heap) (N : List Str) (qual : Str) (scope : Scope) (f : Addr) (cdv : Value) (A : Around) (outer : List Env) (s : Shared) (H : Hp) (E : XK) : Cx := cxOf (L2.CX P w) P w K mg base N qual scope f cdv A outer s H E
abbrev wE (E : XK) : WX := fun cls d _ H => E cls d H
theorem def_ok (F : FunD K x qual params body scope dvs kws f fd) (S : FnScope N ps scope) (t : DSt)
    (hb : ∀ (cdv : Value) (A : Around) (outer : List Env) (s : Shared) (H : Hp) (E : XK) (g : GX), Room k (A.deeper (envOfC qual scope s.heap.objs.size f cdv)) → Takes (CtxB P w K mg base N qual scope f cdv A outer s H E) (wE E) →
      PassesOwn (model P w) (CtxB P w K mg base N qual scope f cdv A outer s H E).A (CtxB P w K mg base N qual scope f cdv A outer s H E).env (CtxB P w K mg base N qual scope f cdv A outer s H E).xe → DSS (CtxB P w K mg base N qual scope f cdv A outer s H E) g (wE E) body t) :
    FnOk P w K mg base (L2.CX P w) (k + 1) f fd ps (spP K (wpOf N ps.length t)) := by
  refine F.ok S (fun vs H Q E h => ?_) fun cdv A outer s H vs Q E hr h => ?_
  · obtain ⟨M, ds, Qd, Xd, dom, _, r, ⟨hl, _⟩, _⟩ := h
    rw [← r.length, hl]
  · refine ⟨_, (hb cdv A outer s H E ⟨H, h.choose, none⟩ hr (takes_of rfl rfl rfl rfl) (passes_of rfl)).pss, ?_⟩
    have hs := h.choose_spec
    generalize h.choose = M at hs
    obtain ⟨ds, Qd, Xd, dom, tb, r, ⟨_, ht⟩, hq, hx⟩ := hs
    refine ⟨M, _, _, entry_ok dom tb r, ht, fun M' δ σ H' h1 E1 _ => ?_, fun M' c δ σ v H' h1 E1 ro => ?_, fun _ _ _ _ z => z.elim, fun _ _ _ _ z => z.elim, fun M' xx xs δ cls dd σ H' h1 E1 _ ea => ?_⟩
    · exact hq M' _ .non H' h1 E1.beh rfl
    · exact hq M' c v H' h1 E1.beh ro
    · exact hx M' xx xs cls dd H' h1 E1.beh ea
theorem defH_ok {p0 : Str} (F : FunD K x qual params body scope dvs kws f fd) (S : FnScope N (p0 :: ps) scope) (t : DSt)
    (hb : ∀ (cdv : Value) (A : Around) (outer : List Env) (s : Shared) (H : Hp) (E : XK) (g : GX), Room k (A.deeper (envOfC qual scope s.heap.objs.size f cdv)) → Takes (CtxB P w K mg base N qual scope f cdv A outer s H E) (wE E) →
      PassesOwn (model P w) (CtxB P w K mg base N qual scope f cdv A outer s H E).A (CtxB P w K mg base N qual scope f cdv A outer s H E).env (CtxB P w K mg base N qual scope f cdv A outer s H E).xe → DSS (CtxB P w K mg base N qual scope f cdv A outer s H E) g (wE E) body t) :
    FnOk P w K mg base (L2.CX P w) (k + 1) f fd (p0 :: ps) (spH K (wpHOf N ps.length t)) := by
  refine F.ok S (fun vs H Q E h => ?_) fun cdv A outer s H vs Q E hr h => ?_
  · obtain ⟨M, p, us, hs, hv, ds, Qd, e, dom, _, m, hp, rh, r, ⟨hl, _⟩, _⟩ := h
    rw [e, List.length_cons, List.length_cons, ← r.length, hl]
  · obtain ⟨M, p, us, hs, hv, ds, Qd, e, dom, tb, m, hp, rh, r, ⟨_, ht⟩, hq⟩ := h
    subst e
    refine ⟨_, (hb cdv A outer s H E ⟨H, M, some p⟩ hr (takes_of rfl rfl rfl rfl) (passes_of rfl)).pss, ?_⟩
    have io : ∀ {M' : Ad} {δ : DEnv} {σ : Sg} {H' : Hp} {P : List D → Prop}, EnvOk K ⟨H, M, some p⟩ M' δ σ H' → onOwn P δ[0]? → ∃ hs' hv', P hs' ∧ H' p = some (.lst hv') ∧ Reps K M' H' hs' hv' := fun {M' δ σ H' P} E1 h1 => by
      obtain ⟨ds', e1, h2⟩ := own_of h1
      obtain ⟨d, i1, i2⟩ := E1.ion p rfl
      obtain ⟨p', ds2, vs2, e2, h3, O⟩ := E1.own e1
      rw [i2] at h3
      cases h3
      cases e2
      exact ⟨_, vs2, h2, O.at_, O.reps⟩
    refine ⟨M, _, _, entryH_ok dom tb m hp rh r, ht, fun M' δ σ H' h1 E1 _ => ?_, fun M' c δ σ v H' h1 E1 ro => ?_, fun _ _ _ _ z => z.elim, fun _ _ _ _ z => z.elim, fun M' xx xs δ cls dd σ H' h1 E1 _ ea => h1.elim⟩
    · obtain ⟨hs', hv', h2, h3, h4⟩ := io E1 h1
      exact hq M' hs' hv' _ .non H' h2 E1.beh h3 h4 rfl
    · obtain ⟨hs', hv', h2, h3, h4⟩ := io E1 h1
      exact hq M' hs' hv' c v H' h2 E1.beh h3 h4 ro
end
/-! ### calls -/
section
variable {X : Cx} {g : GX} {W : WX} {pos : Pos} {x : Str} {p : Pos} {e : Expr} {es : List Expr} {as : DAx} {k : Nat} {f : Addr} {fd : FuncData} {ps : List Str}
def onVal (P : D → Prop) : Cell → Prop
  | .val d => P d
  | _ => False
def onNew (P : List D → Prop) : Cell → Prop
  | .own (.lst ds) => P ds
  | _ => False
theorem val_of {K : Fr} {gg : GX} {M : Ad} {H : Hp} {P : D → Prop} : ∀ {c : Cell} {v : V}, RetOk K gg M H c v → onVal P c → ∃ d, c = .val d ∧ Rep K M H d v ∧ P d
  | .val d, v, r, h => ⟨d, rfl, r, h⟩
  | .own _, _, _, h => h.elim
  | .emp, _, _, h => h.elim
theorem new_of {K : Fr} {gg : GX} {M : Ad} {H : Hp} {P : List D → Prop} : ∀ {c : Cell} {v : V}, RetOk K gg M H c v → onNew P c → ∃ ds p vs, v = .ref p ∧ gg.H0 p = none ∧ M p ∧ H p = some (.lst vs) ∧ Reps K M H ds vs ∧ P ds
  | .own (.lst ds), v, r, h => by
    obtain ⟨p, vs, r1, r2, r3, r4, r5⟩ := r
    exact ⟨ds, p, vs, r1, r2, r3, r4, r5, h⟩
  | .val d, v, r, h => h.elim
  | .own .non, _, _, h => h.elim
  | .own (.bl _), _, _, h => h.elim
  | .own (.int _), _, _, h => h.elim
  | .own (.str _), _, _, h => h.elim
  | .own (.tup _), _, _, h => h.elim
  | .own (.obj _ _ _), _, _, h => h.elim
  | .own (.scr _), _, _, h => h.elim
  | .own (.at _), _, _, h => h.elim
  | .own (.dct _ _), _, _, h => h.elim
  | .own (.dck _ _), _, _, h => h.elim
  | .emp, _, _, h => h.elim
theorem Beh.kp {K : Fr} {M M' : Ad} {H H' : Hp} (b : Beh K M H M' H' none) : ∀ c o, H c = some o → Nt o → H' c = some o := fun c o h t => b.pres.1 c o h (fun z => nomatch z) t
theorem Beh.stp {K : Fr} {M0 M M' : Ad} {δ : DEnv} {σ : Sg} {H H' : Hp} (b : Beh K M H M' H' none) : Stp M0 δ σ H δ H' := ⟨⟨fun _ h => .inl h, fun c o _ h t => b.kp c o h t, b.pres.2.1, fun c o t h => b.kp c o h t.nt⟩, Kin.refl _, fun c o h _ t => b.kp c o h t⟩
theorem EnvOk.beh1 {K : Fr} {M M' : Ad} {δ : DEnv} {σ : Sg} {H H' : Hp} (E : EnvOk K g M δ σ H) (b : Beh K M H M' H' none) : EnvOk K g M δ σ H' := E.sm b.kp b.pres.2.1 b.pres.2.2
theorem ExcAt.less {K : Fr} {M M' : Ad} {H : Hp} {x : Str} {ds : List D} {cls : Value} {dd : Option Addr} (h : ExcAt K M H x ds cls dd) (l : ∀ a, M' a → M a) : ExcAt K M' H x ds cls dd :=
  ⟨h.1, h.2.imp id fun ⟨nn, a, fs, h1, h2, h3, h4⟩ => ⟨nn, a, fs, h1, fun m => h2 (l a m), h3, h4.less l⟩⟩
/-- f(e, ..) for data -/
def callD (wp : Wp) (as : DAx) : DEx := fun δ Q Xd => as δ (fun ds δ1 => wp ds (onVal fun d => Q d δ1) fun x xs => Xd x xs δ1) Xd
theorem call_sound {K : Fr} {wp : Wp} {σ : Sg} {H : Hp} {Q : VK} (q : cE K g W (callD wp as) σ H Q) : tCallS (spP K wp) (WE W) (cA K g W as) σ H Q := by
  obtain ⟨M, δ, Qd, Xd, E, h, k, kx⟩ := q
  refine ⟨M, δ, _, Xd, E, h, fun ds δ1 vs H1 h1 E1 g1 r1 => ?_, kx⟩
  refine ⟨M, ds, _, _, E1.dom, E1.pres.2.2, r1, h1, fun M' c v H' hq b ro => ?_, fun M' x xs cls dd H' hx b ea => ?_⟩
  · obtain ⟨d, _, rv, hq⟩ := val_of ro hq
    exact k d δ1 v H' hq (E1.beh1 b) (g1.trans b.stp) (rv.less b.up)
  · exact kx x xs δ1 cls dd H' hx (E1.beh1 b) (g1.trans b.stp) (ea.less b.up)
theorem de_call {wp : Wp} (F : FnOk X.prog X.w X.K X.mg X.base (L2.CX X.prog X.w) k f fd ps (spP X.K wp)) (hr : Room k X.A) (hg : Gl X x) (hm : X.mg x = some (.ref f)) (hk : PySem.W.keepIn X.K (.ref f) = true) (hb : Binds X.K fd ps []) (tk : Takes X W)
    (ha : DA X g W (e :: es) as) (hdb : (x == ("__debug__" : Str)) = false := by decide) (he : starEach (e :: es) X.env = (false, eval e X.env) :: starEach es X.env := by rfl) (hpl : (backTo pos (starEach es X.env)).any (·.1) = false := by rfl) :
    DE X g W (.Call (.Name x p) (e :: es) [] pos) (callD wp as) :=
  ⟨(pe_callS F hr hg hm hk hb (fun σ => passAt tk σ) ha.pa hdb he hpl).imp fun _ _ _ q => call_sound q⟩
/-- .. for a new list -/
def callF (wp : Wp) (as : DAx) : DFx := fun δ Q Xd => as δ (fun ds δ1 => wp ds (onNew fun d => Q d δ1) fun x xs => Xd x xs δ1) Xd
theorem EnvOk.and2 {K : Fr} {M M' : Ad} {δ : DEnv} {σ : Sg} {H H' : Hp} {p : Addr} (E : EnvOk K g M δ σ H) (b : Beh K M H M' H' none) (h0 : H p = none) (m : M' p) : EnvOk K g (M.and p) δ σ H' := by
  have gr : Grow M H (M.and p) H' := ⟨fun a h => h.elim .inl fun e => .inr (e ▸ h0), fun a o n h t => b.kp a o h t, b.pres.2.1, fun c o t h => b.kp c o h t.nt⟩
  exact E.step gr (fun a h => .inl h) (fun a h => b.dom a (h.elim (b.up a) fun e => e ▸ m)) (fun a h => h.elim .inl fun e => .inr (e ▸ h0)) (fun i ds q vs h1 h2 O => ⟨vs, b.kp _ _ O.at_ nt_lst, O.reps.grow gr⟩) (fun c o _ _ t h => b.kp c o h t) b.pres.2.2
theorem callF_sound {K : Fr} {wp : Wp} {σ : Sg} {H : Hp} {Q : VK} (q : cF K g W (callF wp as) σ H Q) : tCallS (spP K wp) (WE W) (cA K g W as) σ H Q := by
  obtain ⟨M, δ, Qd, Xd, E, h, k, kx⟩ := q
  refine ⟨M, δ, _, Xd, E, h, fun ds δ1 vs H1 h1 E1 g1 r1 => ?_, kx⟩
  refine ⟨M, ds, _, _, E1.dom, E1.pres.2.2, r1, h1, fun M' c v H' hq b ro => ?_, fun M' x xs cls dd H' hx b ea => ?_⟩
  · obtain ⟨es, p, us, ev, h0, m, hp, rv, hq⟩ := new_of ro hq
    subst ev
    exact k es δ1 p us H' hq (E1.beh1 b) (E1.and2 b h0 m) (g1.trans b.stp) (Stp.free (K := K) (g := g) E g1 E1 h0) hp (rv.less fun a z => z.elim (b.up a) fun e => e ▸ m)
  · exact kx x xs δ1 cls dd H' hx (E1.beh1 b) (g1.trans b.stp) (ea.less b.up)
theorem df_call {wp : Wp} (F : FnOk X.prog X.w X.K X.mg X.base (L2.CX X.prog X.w) k f fd ps (spP X.K wp)) (hr : Room k X.A) (hg : Gl X x) (hm : X.mg x = some (.ref f)) (hk : PySem.W.keepIn X.K (.ref f) = true) (hb : Binds X.K fd ps []) (tk : Takes X W)
    (ha : DA X g W (e :: es) as) (hdb : (x == ("__debug__" : Str)) = false := by decide) (he : starEach (e :: es) X.env = (false, eval e X.env) :: starEach es X.env := by rfl) (hpl : (backTo pos (starEach es X.env)).any (·.1) = false := by rfl) :
    DF X g W (.Call (.Name x p) (e :: es) [] pos) (callF wp as) :=
  ⟨(pe_callS F hr hg hm hk hb (fun σ => passAt tk σ) ha.pa hdb he hpl).imp fun _ _ _ q => callF_sound q⟩
/-- f(hand, e, ..): slot i holds the list that is changed -/
def callH (wp : WpH) (i : Nat) (as : DAx) : DEx := fun δ Q Xd => onOwn (fun _ => as δ (fun ds δ1 => onOwn (fun hs => wp hs ds fun hs' c => onVal (fun d => Q d (δ1.set i (.own (.lst hs')))) c) δ1[i]?) Xd) δ[i]?
/-- an own list that a callee has changed -/
theorem EnvOk.hand {K : Fr} {M M' : Ad} {δ : DEnv} {σ : Sg} {H H' : Hp} {q : Addr} {i : Nat} {hs hs' : List D} {hv hv' : List V} (E : EnvOk K g M δ σ H) (hi : δ[i]? = some (.own (.lst hs))) (hσ : σ[i]? = some (some (.ref q))) (O : OwnAt K g M H q hs hv) (b : Beh K M H M' H' (some q)) (hq : H' q = some (.lst hv'))
    (r : Reps K M' H' hs' hv') : EnvOk K g M (δ.set i (.own (.lst hs'))) σ H' ∧ Stp M δ σ H (δ.set i (.own (.lst hs'))) H' := by
  -- the heap with the list as it was
  have sm : ∀ c o, H c = some o → Nt o → upd H' q (.lst hv) c = some o := fun c o h t => by
    by_cases e : c = q
    · subst e
      rw [O.at_] at h
      cases h
      exact upd_same
    · rw [upd_ne e]
      exact b.pres.1 c o h (fun z => e (Option.some.inj z)) t
  have sn : ∀ c, H c ≠ none → upd H' q (.lst hv) c ≠ none := fun c h => upd_dom (b.pres.2.1 c h)
  have back : upd (upd H' q (.lst hv)) q (.lst hv') = H' := by
    funext c
    by_cases e : c = q
    · subst e
      rw [upd_same, hq]
    · rw [upd_ne e, upd_ne e]
  have E1 := E.sm sm sn (b.pres.2.2.upd hq nx_lst nt_lst)
  obtain ⟨i', ds1, vs1, e1, h1, O1⟩ := E1.own hi
  rw [hσ] at h1
  cases h1
  cases e1
  have r1 : Reps K M (upd H' q (.lst hv)) hs' hv' := (r.less b.up).grow ⟨fun _ h => .inl h, fun c o n h _ => by
    rw [upd_ne fun e => n (by rw [e]; exact O.m)]
    exact h, fun _ h => upd_dom h, fun c o t h => upd_tp hq nx_lst.2.2 t h⟩
  obtain ⟨E2, g2⟩ := E1.setOwnTo hi hσ O1 r1
  rw [back] at E2 g2
  exact ⟨E2, Stp.trans ⟨⟨fun _ h => .inl h, fun c o _ h t => sm c o h t, sn, fun c o t h => sm c o h t.nt⟩, Kin.refl _, fun c o h _ t => sm c o h t⟩ g2⟩
theorem callH_sound {K : Fr} {wp : WpH} {i : Nat} {σ : Sg} {H : Hp} {Q : VK} (q : cE K g W (callH wp i as) σ H Q) : tCallS (spH K wp) (WE W) (tCons (tVar i) (cA K g W as)) σ H Q := by
  obtain ⟨M, δ, Qd, Xd, E, h, k, kx⟩ := q
  obtain ⟨hs0, e0, h⟩ := own_of h
  obtain ⟨q0, ds0, vs0, e1, h0, O⟩ := E.own e0
  refine ⟨_, h0, M, δ, _, Xd, E, h, fun ds δ1 vs H1 h1 E1 g1 r1 => ?_, kx⟩
  obtain ⟨hs, e2, h2⟩ := own_of h1
  obtain ⟨q1, ds1, hv, e3, h3, O1⟩ := E1.own e2
  rw [h0] at h3
  cases h3
  cases e3
  refine ⟨M, q0, vs, _, hv, ds, _, rfl, E1.dom, E1.pres.2.2, O1.m, O1.at_, O1.reps, r1, h2, fun M' hs' hv' c v H' hq b hp rh ro => ?_⟩
  obtain ⟨d, _, rv, hq⟩ := val_of ro hq
  obtain ⟨E2, g2⟩ := E1.hand e2 h0 O1 b hp rh
  exact k d _ v H' hq E2 (g1.trans g2) (rv.less b.up)
theorem de_callH {wp : WpH} {i : Nat} {a : Expr} (F : FnOk X.prog X.w X.K X.mg X.base (L2.CX X.prog X.w) k f fd ps (spH X.K wp)) (hr : Room k X.A) (hg : Gl X x) (hm : X.mg x = some (.ref f)) (hk : PySem.W.keepIn X.K (.ref f) = true) (hb : Binds X.K fd ps []) (tk : Takes X W)
    (hv : PE X a (tVar i)) (ha : DA X g W es as) (hdb : (x == ("__debug__" : Str)) = false := by decide) (he : starEach (a :: es) X.env = (false, eval a X.env) :: starEach es X.env := by rfl) (hpl : (backTo pos (starEach es X.env)).any (·.1) = false := by rfl) :
    DE X g W (.Call (.Name x p) (a :: es) [] pos) (callH wp i as) :=
  ⟨(pe_callS F hr hg hm hk hb (fun σ => passAt tk σ) (pa_cons hv ha.pa he) hdb he hpl).imp fun _ _ _ q => callH_sound q⟩
end
end Dn

set_option Elab.async false
set_option linter.all false
set_option maxRecDepth 100000
set_option maxHeartbeats 4000000
namespace Dn
open PySem PySem.Spec PyProof.Rows L2
section
variable {X : Cx} {g : GX} {W : WX} {pos : Pos}
/-! ### raise X() -/
theorem pmk_own0 {C : Addr} {bmB : List Value} {B newId initId : String} {x : Str} {p : Pos} (F : ExcBaseFacts B newId initId bmB) (q : PySem.W.excIn X.K C bmB newId = true) (gC : X.mg x = some (.ref C)) (kC : PySem.W.keepIn X.K (.ref C) = true) (r : Raises X (.ref C)) (hg : Gl X x)
    (hdb : (x == ("__debug__" : Str)) = false := by decide) : PMk X (.Call (.Name x p) [] [] pos) (fun _ H Q => Q (.ref C) none H) := by
  intro pins s σ H Q I h
  refine wpAny_Call_Name_kw (ld_glob I hg gC ?_ hdb)
  refine PySem.W.callWith_K0 I.kIn kC ?_
  show wpAny _ _ (call (.ref C) []) _ _ _
  obtain ⟨bm, N, nm, qn, bs, hdct, sn, sub, ab, col, dd, k0, k1, k2, k3, k5, mN, hC, hN, hni, T⟩ := exc_obj I.kIn q
  refine wpAny_call_exc_subT F T hC hN hni (fun h' e hm => ?_) (by show 0 ≤ sizeLine; exact Nat.zero_le _)
  exact mk_of I hm r h (I.hok.gone hm.new)
def raiseD (x : Str) : DSt := fun k δ => k.ex x [] δ
theorem ds_raise {x : Str} {p pos2 : Pos} (hc : X.calm = true) (tk : Takes X W) (hx : (He.Fa.exc x).ok X.K = true) (gC : X.mg x = some (.ref (He.ga X.K x))) (hg : Gl X x) (hdb : (x == ("__debug__" : Str)) = false := by decide) :
    DS X g W (.Raise (some (.Call (.Name x p) [] [] pos2)) none pos) (raiseD x) := by
  obtain ⟨h1, h2, h3, h4⟩ := He.exc_ok hx
  refine ⟨(ps_raise hc tk (pmk_own0 F.excBase_ValueError h1 gC h2 (raises_own h3 h4) hg hdb)).imp fun T σ H q => ?_⟩
  obtain ⟨M, δ, k, E, h, S⟩ := q
  exact S.ex M x [] δ _ none σ H h E (Grow.refl _ _) ⟨rfl, .inl ⟨rfl, rfl⟩⟩
/-! ### a body whose end is read by hand -/
structure DSP (X : Cx) (g : GX) (W : WX) (sts : List Stmt) (s : DSt) (u : TS) : Prop where
  pss : PSs X sts (fun T σ H => cS X.K g W s { T with nx := u T } σ H)
theorem dsp_end {sts : List Stmt} {u : TS} (h : PSs X sts u) : DSP X g W sts nextD u := by
  refine ⟨h.imp fun T σ H q => ?_⟩
  obtain ⟨M, δ, k, E, h, S⟩ := q
  exact S.nx M δ σ H h E (Grow.refl _ _)
theorem dsp_cons {st : Stmt} {sts : List Stmt} {s s' : DSt} {u : TS} (h1 : DS X g W st s) (h2 : DSP X g W sts s' u) : DSP X g W (st :: sts) (seqD s s') u := by
  refine ⟨(pss_cons h1.ps h2.pss).imp fun T σ H q => ?_⟩
  obtain ⟨M, δ, k, E, h, S⟩ := q
  exact ⟨M, δ, _, E, h, fun M' δ' σ' H' h' E' g' => ⟨M', δ', k, E', h', S.grow g'⟩, S.rt, S.bk, S.ct, S.ex⟩
/-! ### C(..) -/
/-- what __init__ leaves: the fields' names, their data -/
abbrev WpI := List D → (List Str → List D → Prop) → Prop
structure BehI (K : Fr) (M : Ad) (H : Hp) (M' : Ad) (H' : Hp) (x dx : Addr) : Prop where
  up : ∀ a, M a → M' a
  new : ∀ a, M' a → M a ∨ H a = none
  dom : ∀ a, M' a → H' a ≠ none
  pres : ∀ b o, H b = some o → b ≠ x → b ≠ dx → Nt o → H' b = some o
  stay : ∀ b, H b ≠ none → H' b ≠ none
  tabs : TabsOk K H'
def spI (K : Fr) (C : Str) (wp : WpI) : Sp := fun vs H Q E => ∃ (x dx : Addr) (us : List V) (M : Ad) (ds : List D) (Qd : List Str → List D → Prop), vs = .ref x :: us ∧ H x = some (.ins (He.ga K C) dx []) ∧ H dx = some (.own x) ∧ dx ≠ x ∧ M x ∧ M dx ∧ (∀ a, M a → H a ≠ none) ∧ TabsOk K H ∧
  Reps K M H ds us ∧ wp ds Qd ∧ ∀ M' ns fs zs H', Qd ns fs → BehI K M H M' H' x dx → H' x = some (.ins (He.ga K C) dx (ns.zip zs)) → ns.length = zs.length → Reps K M' H' fs zs → Q .non H'
def makeD (C : Str) (wp : WpI) (as : DAx) : DEx := fun δ Q Xd => as δ (fun ds δ1 => wp ds fun ns fs => Q (.obj C ns fs) δ1) Xd
theorem zip_maps {ns : List Str} {zs : List V} (h : ns.length = zs.length) : (ns.zip zs).map (·.1) = ns ∧ (ns.zip zs).map (·.2) = zs := by
  constructor
  · exact List.map_fst_zip (by omega)
  · exact List.map_snd_zip (by omega)
theorem make_sound {K : Fr} {C : Str} {wp : WpI} {as : DAx} {E0 : XK} {σ : Sg} {H : Hp} {Q : VK} (q : cE K g W (makeD C wp as) σ H Q) : tMake (He.ga K C) (spI K C wp) [] E0 (cA K g W as) σ H Q := by
  obtain ⟨M, δ, Qd, Xd, E, h, k, kx⟩ := q
  refine ⟨M, δ, _, Xd, E, h, fun ds δ1 vs H1 h1 E1 g1 r1 => ?_, kx⟩
  intro x dx hx hdx hne
  have s1 : Same H1 (upd H1 dx (.own x)) := same_upd hdx
  have hx1 : upd H1 dx (.own x) x = none := by rw [upd_ne (Ne.symm hne)]; exact hx
  have s2 : Same H1 (upd (upd H1 dx (.own x)) x (.ins (He.ga K C) dx [])) := s1.trans (same_upd hx1)
  have E2 := E1.same s2
  have nx : ¬ M x := not_dom E1.dom hx
  have nd : ¬ M dx := not_dom E1.dom hdx
  have dom2 : ∀ a, ((M.and dx).and x) a → upd (upd H1 dx (.own x)) x (.ins (He.ga K C) dx []) a ≠ none := fun a h => by
    rcases h with (h | h) | h
    · exact E2.dom a h
    · rw [h, upd_ne hne, upd_same]
      exact fun z => nomatch z
    · rw [h, upd_same]
      exact fun z => nomatch z
  refine ⟨x, dx, vs, (M.and dx).and x, ds, _, by rw [List.append_nil], upd_same, by rw [upd_ne hne, upd_same], hne, .inr rfl, .inl (.inr rfl), dom2, E2.pres.2.2, r1.grow ((Grow.and hdx).trans (Grow.and hx1)), h1, fun M' ns fs zs H' hq b hx' hl rz => ⟨rfl, ?_⟩⟩
  have sm : ∀ c o, H1 c = some o → Nt o → H' c = some o := fun c o e t => b.pres c o (s2 c o e) (ne_of_none e hx) (ne_of_none e hdx) t
  have sn : ∀ c, H1 c ≠ none → H' c ≠ none := fun c e => b.stay c (by
    cases z : H1 c with
    | none => exact absurd z e
    | some o => rw [s2 c o z]; exact fun z => nomatch z)
  obtain ⟨m1, m2⟩ := zip_maps hl
  refine k (.obj C ns fs) δ1 (.ref x) H' hq (E1.sm sm sn b.tabs) (g1.trans ⟨⟨fun _ h => .inl h, fun c o _ e t => sm c o e t, sn, fun c o t e => sm c o e t.nt⟩, Kin.refl _, fun c o e _ t => sm c o e t⟩) ⟨x, dx, ns.zip zs, rfl, nx, hx', m1, ?_⟩
  rw [m2]
  exact rz.less fun a m => b.up a (.inl (.inl m))
theorem de_make {C : Str} {f : Addr} {fd : FuncData} {ps : List Str} {k : Nat} {wp : WpI} {p : Pos} {e : Expr} {es : List Expr} {as : DAx} (Mm : Mk X.K (He.ga X.K C) f) (F : FnOk X.prog X.w X.K X.mg X.base (L2.CX X.prog X.w) k f fd ps (spI X.K C wp)) (hr : Room (k + 1) X.A) (hg : Gl X C) (hm : X.mg C = some (.ref (He.ga X.K C)))
    (hb : Binds X.K fd ps []) (ha : DA X g W (e :: es) as) (hdb : (C == ("__debug__" : Str)) = false := by decide) (he : starEach (e :: es) X.env = (false, eval e X.env) :: starEach es X.env := by rfl) (hpl : (backTo pos (starEach es X.env)).any (·.1) = false := by rfl) :
    DE X g W (.Call (.Name C p) (e :: es) [] pos) (makeD C wp as) :=
  ⟨(pe_make (E := E0) (dvs := []) (ds := []) Mm F hr hg hm hb .nil passL ha.pa hdb he hpl).imp fun _ _ _ q => make_sound q⟩
end
/-! ### __init__: statements, then self.f = x, .. -/
/-- the rows self.f = x: the fields' names, the slots -/
def initT (K : Fr) (C : Str) : List (Str × Nat) → TS
  | [] => fun T σ H => T.nx σ H
  | (f, i) :: r => fun T σ H => ∃ y, σ[i]? = some (some y) ∧ ∃ a dx fs, σ[0]? = some (some (.ref a)) ∧ H a = some (.ins (He.ga K C) dx fs) ∧ Cls K (He.ga K C) ∧ NoAttr K (He.ga K C) f ∧ fs.length < 1000 ∧ initT K C r T σ (upd H a (.ins (He.ga K C) dx (putF f y fs)))
theorem init_nil {X : Cx} {C : Str} : PSs X [] (initT X.K C []) := pss_nil.imp fun _ _ _ q => q
theorem init_cons {X : Cx} {C : Str} {f s x : Str} {i : Nat} {r : List (Str × Nat)} {sts : List Stmt} {p1 p2 pos pos' : Pos} (hs : PE X (.Name s p1) (tVar 0)) (hx : PE X (.Name x p2) (tVar i)) (hr : PSs X sts (initT X.K C r))
    (hsw : swapsWith (.Name x p2) (some (.Attribute (.Name s p1) f pos')) pos.line X.env = pure false := by rfl) : PSs X (.Assign [.Attribute (.Name s p1) f pos'] (.Name x p2) pos :: sts) (initT X.K C ((f, i) :: r)) := by
  refine (pss_cons (ps_fld hs hx hsw) hr).imp fun T σ H q => ?_
  obtain ⟨y, hy, a, dx, fs, h0, ha, c, n, hl, q⟩ := q
  exact ⟨y, hy, .ref a, h0, a, _, dx, fs, rfl, ha, c, n, hl, q⟩
/-- the fields one behind another -/
def putAll : List (Str × V) → List (Str × V) → List (Str × V)
  | [], fs => fs
  | (f, y) :: r, fs => putAll r (putF f y fs)
theorem putF_len (f : Str) (y : V) : ∀ fs : List (Str × V), (putF f y fs).length ≤ fs.length + 1
  | [] => Nat.le_refl _
  | (g, x) :: r => by
    show (if g = f then (g, y) :: r else (g, x) :: putF f y r).length ≤ _
    split
    · simp
    · have := putF_len f y r
      simp only [List.length_cons]
      omega
theorem putF_new (f : Str) (y : V) : ∀ fs : List (Str × V), (∀ q ∈ fs, q.1 ≠ f) → putF f y fs = fs ++ [(f, y)]
  | [], _ => rfl
  | (g, x) :: r, h => by
    show (if g = f then (g, y) :: r else (g, x) :: putF f y r) = _
    rw [if_neg (h (g, x) (List.mem_cons_self ..)), putF_new f y r fun q hq => h q (List.mem_cons_of_mem _ hq)]
    rfl
theorem putAll_new : ∀ (r : List (Str × V)) (fs : List (Str × V)), (r.map (·.1)).Nodup → (∀ q ∈ r, ∀ p ∈ fs, p.1 ≠ q.1) → putAll r fs = fs ++ r
  | [], fs, _, _ => by rw [List.append_nil]; rfl
  | (f, y) :: r, fs, hd, h => by
    show putAll r (putF f y fs) = _
    rw [putF_new f y fs fun q hq => h (f, y) (List.mem_cons_self ..) q hq]
    rw [List.map_cons, List.nodup_cons] at hd
    rw [putAll_new r _ hd.2 fun q hq p hp => ?_, List.append_assoc]
    · rfl
    · rcases List.mem_append.mp hp with hp | hp
      · exact h q (List.mem_cons_of_mem _ hq) p hp
      · rw [List.mem_singleton.mp hp]
        intro e
        exact hd.1 (by
          show f ∈ r.map (·.1)
          have e : f = q.1 := e
          rw [e]
          exact List.mem_map.mpr ⟨q, hq, rfl⟩)
theorem initT_run {K : Fr} {C : Str} (c : Cls K (He.ga K C)) {T : Ends} {σ : Sg} {a dx : Addr} (h0 : σ[0]? = some (some (.ref a))) : ∀ {r : List (Str × Nat)} {ys : List V} {fs : List (Str × V)} {H : Hp}, (∀ q ∈ r, NoAttr K (He.ga K C) q.1) → (∀ i, i < r.length → ∃ y, ys[i]? = some y ∧ ∀ q, r[i]? = some q → σ[q.2]? = some (some y)) →
    r.length = ys.length → fs.length + r.length < 1000 → H a = some (.ins (He.ga K C) dx fs) → T.nx σ (if r = [] then H else upd H a (.ins (He.ga K C) dx (putAll ((r.map (·.1)).zip ys) fs))) → initT K C r T σ H
  | [], ys, fs, H, hn, hy, hl, hf, ha, q => q
  | (f, i) :: r, [], fs, H, hn, hy, hl, hf, ha, q => by cases hl
  | (f, i) :: r, y :: ys, fs, H, hn, hy, hl, hf, ha, q => by
    obtain ⟨y', e1, e2⟩ := hy 0 (by simp)
    have e1 : y = y' := by simpa using e1
    subst e1
    have len := putF_len f y fs
    rw [List.length_cons] at hf
    refine ⟨y, e2 (f, i) rfl, a, dx, fs, h0, ha, c, hn (f, i) (List.mem_cons_self ..), by omega, ?_⟩
    refine initT_run c h0 (r := r) (ys := ys) (fs := putF f y fs) (fun q hq => hn q (List.mem_cons_of_mem _ hq)) (fun j hj => ?_) (by simpa using hl) (by omega) upd_same ?_
    · obtain ⟨z, z1, z2⟩ := hy (j + 1) (by simpa using hj)
      exact ⟨z, by simpa using z1, fun q hq => z2 q (by simpa using hq)⟩
    · rw [if_neg (by simp)] at q
      by_cases hr : r = []
      · subst hr
        rw [if_pos rfl]
        cases ys with
        | nil => exact q
        | cons _ _ => cases hl
      · rw [if_neg hr, upd_upd]
        exact q
def cellsAt (δ : DEnv) : List (Str × Nat) → (List D → Prop) → Prop
  | [], P => P []
  | (_, i) :: r, P => match (δ[i]? : Option Cell) with
    | some (Cell.val d) => cellsAt δ r fun ds => P (d :: ds)
    | _ => False
theorem cellsAt_of {K : Fr} {g : GX} {M : Ad} {δ : DEnv} {σ : Sg} {H : Hp} (E : EnvOk K g M δ σ H) : ∀ {r : List (Str × Nat)} {P : List D → Prop}, cellsAt δ r P → ∃ ds ys, P ds ∧ Reps K M H ds ys ∧ r.length = ys.length ∧ ∀ i, i < r.length → ∃ y, ys[i]? = some y ∧ ∀ q, r[i]? = some q → σ[q.2]? = some (some y)
  | [], P, h => ⟨[], [], h, rfl, rfl, fun i hi => by cases hi⟩
  | (f, i) :: r, P, h => by
    unfold cellsAt at h
    split at h
    · rename_i d e
      obtain ⟨v, h1, h2⟩ := E.val e
      obtain ⟨ds, ys, h3, h4, h5, h6⟩ := cellsAt_of E (r := r) h
      refine ⟨d :: ds, v :: ys, h3, ⟨v, ys, rfl, h2, h4⟩, by simp [h5], fun j hj => ?_⟩
      cases j with
      | zero => exact ⟨v, rfl, fun q hq => by cases hq; exact h1⟩
      | succ j =>
        obtain ⟨y, y1, y2⟩ := h6 j (by simpa using hj)
        exact ⟨y, by simpa using y1, fun q hq => y2 q (by simpa using hq)⟩
    · exact h.elim
def wpIOf (N : List Str) (n : Nat) (rows : List (Str × Nat)) (t : DSt) : WpI := fun ds Qd => ds.length = n ∧ ∀ a : Addr, t { nx := fun δ => δ[0]? = some (.val (.at a)) ∧ cellsAt δ rows (Qd (rows.map (·.1))), rt := fun _ _ => False, bk := fun _ => False, ct := fun _ => False, ex := fun _ _ _ => False } (entry N (.val (.at a) :: ds.map .val))
section
variable {P : Program} {w : World} {K : PySem.W.Frag} {mg : Str → Option Value} {base : Heap} {x qual : Str} {params : Arguments} {body : List Stmt} {scope : Scope} {dvs : List V} {kws : List (Str × V)} {f : Addr} {fd : FuncData} {N ps : List Str} {k : Nat}
theorem init_ok {p0 C : Str} {rows : List (Str × Nat)} (F : FunD K x qual params body scope dvs kws f fd) (S : FnScope N (p0 :: ps) scope) (t : DSt) (cl : Cls K (He.ga K C)) (na : ∀ q ∈ rows, NoAttr K (He.ga K C) q.1) (nd : (rows.map (·.1)).Nodup) (h0 : rows ≠ []) (hl : rows.length < 1000)
    (hb : ∀ (cdv : Value) (A : Around) (outer : List Env) (s : Shared) (H : Hp) (E : XK) (g : GX), Room k (A.deeper (envOfC qual scope s.heap.objs.size f cdv)) → Takes (CtxB P w K mg base N qual scope f cdv A outer s H E) (wE E) →
      PassesOwn (model P w) (CtxB P w K mg base N qual scope f cdv A outer s H E).A (CtxB P w K mg base N qual scope f cdv A outer s H E).env (CtxB P w K mg base N qual scope f cdv A outer s H E).xe → DSP (CtxB P w K mg base N qual scope f cdv A outer s H E) g (wE E) body t (initT K C rows)) :
    FnOk P w K mg base (L2.CX P w) (k + 1) f fd (p0 :: ps) (spI K C (wpIOf N ps.length rows t)) := by
  refine F.ok S (fun vs H Q E h => ?_) fun cdv A outer s H vs Q E hr h => ?_
  · obtain ⟨x, dx, us, M, ds, Qd, e, _, _, _, _, _, _, _, r, ⟨hl, _⟩, _⟩ := h
    rw [e, List.length_cons, List.length_cons, ← r.length, hl]
  · obtain ⟨x, dx, us, M, ds, Qd, e, hx, hdx, hne, mx, md, dom, tb, r, ⟨_, ht⟩, hq⟩ := h
    subst e
    refine ⟨_, (hb cdv A outer s H E ⟨H, M, none⟩ hr (takes_of rfl rfl rfl rfl) (passes_of rfl)).pss, ?_⟩
    have E0 : EnvOk K ⟨H, M, none⟩ M (entry N ((D.at x :: ds).map .val)) (L2.start N (.ref x :: us)) H := entry_ok (ds := D.at x :: ds) dom tb ⟨.ref x, us, rfl, rfl, r⟩
    refine ⟨M, _, _, E0, ht x, fun M' δ σ H' ⟨c0, h1⟩ E1 _ => ?_, fun _ _ _ _ _ _ z => z.elim, fun _ _ _ _ z => z.elim, fun _ _ _ _ z => z.elim, fun _ _ _ _ _ _ _ _ z => z.elim⟩
    obtain ⟨v0, s0, e0⟩ := E1.val c0
    have e0 : v0 = .ref x := e0
    subst e0
    obtain ⟨fs, ys, hP, rf, hl2, hy⟩ := cellsAt_of E1 h1
    have hx' : H' x = some (.ins (He.ga K C) dx []) := E1.pres.1 x _ hx (fun z => nomatch z) nt_ins
    have hl3 : (rows.map (·.1)).length = ys.length := by rw [List.length_map, hl2]
    refine initT_run cl s0 (fs := []) na hy hl2 (by simpa using hl) hx' ?_
    rw [if_neg h0, putAll_new _ [] (by rw [(zip_maps hl3).1]; exact nd) (fun _ _ p hp => by cases hp), List.nil_append]
    have gr : Grow M' H' M' (upd H' x (.ins (He.ga K C) dx ((rows.map (·.1)).zip ys))) := ⟨fun _ h => .inl h, fun b o n h _ => by
      rw [upd_ne fun e => n (by rw [e]; exact E1.up x mx)]
      exact h, fun b h => upd_dom h, fun b o t h => upd_tp hx' nx_ins.2.2 t h⟩
    exact hq M' _ fs ys _ hP ⟨E1.up, E1.new, fun a m => upd_dom (E1.dom a m), fun b o e n1 n2 t => by
      rw [upd_ne n1]
      exact E1.pres.1 b o e (fun z => nomatch z) t, fun b h => upd_dom (E1.pres.2.1 b h), E1.pres.2.2.upd hx' nx_ins nt_ins⟩ upd_same hl3 (rf.grow gr)
end
end Dn

set_option Elab.async false
set_option linter.all false
set_option maxRecDepth 100000
set_option maxHeartbeats 4000000
namespace Dn
open PySem PySem.Spec PyProof.Rows L2
section
variable {X : Cx} {g : GX} {W : WX} {pos : Pos}
/-! ### in short -/
theorem ds_app {i : Nat} {x : Str} {p apos cpos : Pos} {e : Expr} {ee : DEx} (hx : PE X (.Name x p) (tVar i)) (he : DE X g W e ee)
    (hbase : attributeBase (.Name x p) "append" X.env (eval (.Name x p) X.env) = eval (.Name x p) X.env := by rfl)
    (hfew : ((backTo cpos (starEach [e] X.env)).all (fun x => !x.1) && (backToKw cpos (keywordEach [] X.env)).all (fun x => x.1.isSome) && decide ([e].length + ([] : List Keyword).length + (if ([] : List Keyword).isEmpty then 0 else 1) < 30)) = true := by rfl)
    (hline : (apos.endLine == cpos.line) = true := by rfl) (hs : starEach [e] X.env = (false, eval e X.env) :: starEach [] X.env := by rfl) (hplain : (backTo cpos (starEach [] X.env)).any (·.1) = false := by rfl)
    (hsw : swapsWith (.Call (.Attribute (.Name x p) "append" apos) [e] [] cpos) none pos.line X.env = pure false := by rfl) :
    DS X g W (.Expr (.Call (.Attribute (.Name x p) "append" apos) [e] [] cpos) pos) (appD i ee) :=
  ds_append hx he (fun ha => ps_expr (pe_bm PySem.F.plainAttrs_list PySem.F.slot_list_append PySem.F.type_list_append mt_append hx ha hbase hfew hline hs hplain) hsw) hs
theorem ds_seti {i : Nat} {x : Str} {p tp : Pos} {b e : Expr} {eb ee : DEx} (hx : PE X (.Name x p) (tVar i)) (hb : DE X g W b eb) (he : DE X g W e ee)
    (ha : ∀ v, assign (.Subscript (.Name x p) b tp) X.env v = (do
      let ov ← holding [v] (eval (.Name x p) X.env)
      let iv ← holding [v, ov] (eval b X.env)
      standAt tp
      holding [v, ov, iv] (setItem ov iv v)
      release [v, ov, iv] []) := by intro _; rfl)
    (hs : swapsWithSole [.Subscript (.Name x p) b tp] e pos.line X.env = pure false := by rfl) (hw : swappedStores [.Subscript (.Name x p) b tp] e X.env = pure none := by rfl)
    (h1 : (assignEach [.Subscript (.Name x p) b tp] X.env).map (·.2) = [assign (.Subscript (.Name x p) b tp) X.env] := by rfl) : DS X g W (.Assign [.Subscript (.Name x p) b tp] e pos) (setD i eb ee) :=
  ds_setitem hx hb he fun h1' h2' => ps_asg h1' (pg_sub hx h2' set_list ha) hs hw h1
/-- -e -/
def negD (e : DEx) : DEx := fun δ Q Xd => e δ (fun d δ1 => onI (fun i => Q (.int (-i)) δ1) d) Xd
theorem de_neg {e : Expr} {ee : DEx} (he : DE X g W e ee) : DE X g W (.UnaryOp .USub e pos) (negD ee) := by
  refine ⟨(pe_un un_neg he.pe).imp fun σ H Q q => ?_⟩
  obtain ⟨M, δ, Qd, Xd, E, h, k, kx⟩ := q
  refine ⟨M, δ, _, Xd, E, h, fun d δ1 v H1 h1 E1 g1 r1 => ?_, kx⟩
  obtain ⟨i, ev, h2⟩ := int_of r1 h1
  exact ⟨i, ev, k _ δ1 _ H1 h2 E1 g1 rfl⟩
/-! ### isinstance of an own class -/
structure OwnC (K : Fr) (C : Str) : Prop where
  cl : Cls K (He.ga K C)
  ha : PySem.W.findIn K (.ref (He.ga K C)) "__class__" = some (some (.builtin "object.__class__"))
  hn : PySem.W.specialIn K (.builtin "object.__class__") "__get__" = some (some (.builtin "getset_descriptor.__get__"))
  htk : PySem.W.takesIn K (.builtin "object.__class__") = some true
  hm : PySem.W.mroIn K (He.ga K C) (.type "object") = some true
  one : PySem.W.kitOne K (.ref (He.ga K C)) (.ref (He.ga K C)) = some true
def ownCB (K : Fr) (C : Str) : Bool := He.eqO (PySem.W.findIn K (.ref (He.ga K C)) "__class__") (some (some (.builtin "object.__class__"))) && (He.eqO (PySem.W.specialIn K (.builtin "object.__class__") "__get__") (some (some (.builtin "getset_descriptor.__get__"))) &&
  (decide (PySem.W.takesIn K (.builtin "object.__class__") = some true) && (decide (PySem.W.mroIn K (He.ga K C) (.type "object") = some true) && decide (PySem.W.kitOne K (.ref (He.ga K C)) (.ref (He.ga K C)) = some true))))
theorem ownC_ok {K : Fr} {C : Str} (cl : Cls K (He.ga K C)) (h : ownCB K C = true) : OwnC K C := by
  obtain ⟨h1, h⟩ := He.ba h
  obtain ⟨h2, h⟩ := He.ba h
  obtain ⟨h3, h⟩ := He.ba h
  obtain ⟨h4, h5⟩ := He.ba h
  exact ⟨cl, He.eqO_ok h1, He.eqO_ok h2, of_decide_eq_true h3, of_decide_eq_true h4, of_decide_eq_true h5⟩
def onObj (C : Str) (P : Prop) : D → Prop
  | .obj c _ _ => c = C ∧ P
  | _ => False
def isoD (C : Str) (e : DEx) : DEx := fun δ Q Xd => e δ (fun d δ1 => onObj C (Q (.bl true) δ1) d) Xd
theorem de_iso {x C : Str} {e : Expr} {p p2 : Pos} {ee : DEx} (oc : OwnC X.K C) (hg : Gl X x) (hm : X.mg x = none) (hv : bootBuiltins x = some (.builtin "isinstance")) (he : DE X g W e ee) (hgc : Gl X C) (hmc : X.mg C = some (.ref (He.ga X.K C))) (hn : x ≠ "__name__" := by decide) (hdb : (x == ("__debug__" : Str)) = false := by decide) (hdc : (C == ("__debug__" : Str)) = false := by decide)
    (hs : starEach [e, .Name C p2] X.env = (false, eval e X.env) :: starEach [.Name C p2] X.env := by rfl) (hs2 : starEach [.Name C p2] X.env = (false, eval (.Name C p2) X.env) :: starEach [] X.env := by rfl) (hpl : (backTo pos (starEach [.Name C p2] X.env)).any (·.1) = false := by rfl) :
    DE X g W (.Call (.Name x p) [e, .Name C p2] [] pos) (isoD C ee) := by
  have hc : PE X (.Name C p2) (tC (.ref (He.ga X.K C))) := pe_glob (v := .ref (He.ga X.K C)) hgc hmc rfl hdc
  refine ⟨(pe_callB call_isi hg hm hv (pa_cons he.pe (pa_cons hc pa_nil hs2) hs) hn hdb hs hpl).imp fun σ H Q q => ?_⟩
  obtain ⟨M, δ, Qd, Xd, E, h, k, kx⟩ := q
  refine ⟨M, δ, _, Xd, E, h, fun d δ1 v H1 h1 E1 g1 r1 => ?_, kx⟩
  cases d with
  | obj c ns ds =>
    obtain ⟨e1, h2⟩ := h1
    subst e1
    obtain ⟨a, dx, fs, ev, n, ha, _, _⟩ := r1
    exact ⟨v, .ref (He.ga X.K c), _, _, true, rfl, .own _, by rw [ev]; exact .base (.ins ha oc.cl oc.ha oc.hn oc.htk oc.hm), oc.one, k _ δ1 _ H1 h2 E1 g1 rfl⟩
  | _ => exact h1.elim
/-! ### index -/
/-- the first place of a text -/
def firstAt (ds : List D) (z : Str) : Option Nat := ds.findIdx? fun d => match d with
  | .str y => y == z
  | _ => false
def allStr : List D → Option (List Str)
  | [] => some []
  | .str x :: r => (allStr r).map (x :: ·)
  | _ => none
theorem allStr_reps {K : Fr} {M : Ad} {H : Hp} : ∀ {ds : List D} {vs : List V} {ns : List Str}, Reps K M H ds vs → allStr ds = some ns → vs = ns.map V.str ∧ ds = ns.map D.str
  | [], vs, ns, r, h => by
    cases h
    have e : vs = [] := r
    exact ⟨e, rfl⟩
  | d :: ds, vs, ns, r, h => by
    obtain ⟨v, w, e, r1, r2⟩ := r
    cases d with
    | str i =>
      have h : (allStr ds).map (i :: ·) = some ns := h
      cases q : allStr ds with
      | none => rw [q] at h; cases h
      | some ms =>
        rw [q] at h
        cases h
        have e1 : v = .str i := r1
        obtain ⟨h1, h2⟩ := allStr_reps r2 q
        rw [e, e1, h1, h2]
        exact ⟨rfl, rfl⟩
    | _ => cases h
theorem eqV_str {z y : Str} : eqV (.str z) (.str y) = (z == y) := by
  unfold eqV
  simp only [decide_eq_true_eq]
/-- list.index(text), tuple.index(text) -/
abbrev dIxS : D2 := fun x y P => onS (fun z => seqOf (fun ds => onSome (fun ns => ∃ j : Nat, ns[j]? = some z ∧ (∀ m, m < j → ns[m]? ≠ some z) ∧ P (.int j)) (allStr ds)) x) y
theorem de_ixL {x : Str} {p apos : Pos} {e : Expr} {ex ee : DEx} (hx : DE X g W (.Name x p) ex) (he : DE X g W e ee)
    (hbase : attributeBase (.Name x p) "index" X.env (eval (.Name x p) X.env) = eval (.Name x p) X.env := by rfl)
    (hfew : ((backTo pos (starEach [e] X.env)).all (fun x => !x.1) && (backToKw pos (keywordEach [] X.env)).all (fun x => x.1.isSome) && decide ([e].length + ([] : List Keyword).length + (if ([] : List Keyword).isEmpty then 0 else 1) < 30)) = true := by rfl)
    (hline : (apos.endLine == pos.line) = true := by rfl) (hs : starEach [e] X.env = (false, eval e X.env) :: starEach [] X.env := by rfl) (hplain : (backTo pos (starEach [] X.env)).any (·.1) = false := by rfl) :
    DE X g W (.Call (.Attribute (.Name x p) "index" apos) [e] [] pos) (fun δ Q Xd => ex δ (fun x δ1 => onLst (fun ds => ee δ1 (fun y δ2 => dIxS (.lst ds) y fun z => Q z δ2) Xd) x) Xd) := by
  refine ⟨(pe_bm PySem.F.plainAttrs_list PySem.F.slot_list_index PySem.F.type_list_index mt_index hx.pe (pa_cons he.pe pa_nil hs) hbase hfew hline hs hplain).imp fun σ H Q q => ?_⟩
  obtain ⟨M, δ, Qd, Xd, E, h, k, kx⟩ := q
  refine ⟨M, δ, _, Xd, E, h, fun x δ1 w H1 h1 E1 g1 r1 => ?_, kx⟩
  obtain ⟨ds, a, vs, ex, ew, l, rs, h1⟩ := lst_of r1 h1
  subst ew
  refine ⟨.inl ⟨rfl, vs, l.sq⟩, M, δ1, _, Xd, E1, h1, fun d δ2 v H2 h2 E2 g2 r2 => ?_, kx.grow g1⟩
  obtain ⟨z, ez, h3⟩ := str_of r2 h2
  obtain ⟨ns, en, j, hj, hno, hq⟩ := onSome_of h3
  obtain ⟨e1, e2⟩ := allStr_reps rs en
  subst e1
  refine ⟨a, ns.map V.str, v, j, .str z, rfl, rfl, (l.grow g2.g).sq, by rw [ez]; rfl, flat_strs ns, by rw [List.getElem?_map, hj]; rfl, by rw [ez, eqV_str]; exact beq_self_eq_true z, fun m z' hm hz => ?_, k _ δ2 _ H2 hq E2 (g1.trans g2) rfl⟩
  rw [List.getElem?_map] at hz
  cases q : ns[m]? with
  | none => rw [q] at hz; cases hz
  | some y =>
    rw [q] at hz
    cases hz
    rw [ez, eqV_str]
    exact beq_eq_false_iff_ne.mpr fun e => hno m hm (by rw [q, e])
/-- of a tuple of texts that the module holds -/
theorem de_ixT {x : Str} {p apos : Pos} {e : Expr} {ee : DEx} {ns : List Str} (hx : PE X (.Name x p) (tC (.ref (He.ga X.K x)))) (he : DE X g W e ee) (hk : KTup X.K (He.ga X.K x) (ns.map V.str)) (hd : ∃ o, X.K.lookup (He.ga X.K x) = some o ∧ o.cls = .type "tuple" ∧ o.dict = none)
    (hbase : attributeBase (.Name x p) "index" X.env (eval (.Name x p) X.env) = eval (.Name x p) X.env := by rfl)
    (hfew : ((backTo pos (starEach [e] X.env)).all (fun x => !x.1) && (backToKw pos (keywordEach [] X.env)).all (fun x => x.1.isSome) && decide ([e].length + ([] : List Keyword).length + (if ([] : List Keyword).isEmpty then 0 else 1) < 30)) = true := by rfl)
    (hline : (apos.endLine == pos.line) = true := by rfl) (hs : starEach [e] X.env = (false, eval e X.env) :: starEach [] X.env := by rfl) (hplain : (backTo pos (starEach [] X.env)).any (·.1) = false := by rfl) :
    DE X g W (.Call (.Attribute (.Name x p) "index" apos) [e] [] pos) (fun δ Q Xd => ee δ (fun y δ2 => dIxS (.tup (ns.map D.str)) y fun z => Q z δ2) Xd) := by
  refine ⟨(pe_bm PySem.F.plainAttrs_tuple PySem.F.slot_tuple_index PySem.F.type_tuple_index mt_tup_index hx (pa_cons he.pe pa_nil hs) hbase hfew hline hs hplain).imp fun σ H Q q => ?_⟩
  obtain ⟨M, δ, Qd, Xd, E, h, k, kx⟩ := q
  refine ⟨.inr (.inl ⟨rfl, hd⟩), M, δ, _, Xd, E, h, fun d δ2 v H2 h2 E2 g2 r2 => ?_, kx⟩
  obtain ⟨z, ez, h3⟩ := str_of r2 h2
  obtain ⟨ns', en, j, hj, hno, hq⟩ := onSome_of h3
  have : ns' = ns := by
    have z : ∀ ms : List Str, allStr (ms.map D.str) = some ms := fun ms => by
      induction ms with
      | nil => rfl
      | cons m ms ih =>
        show (allStr (ms.map D.str)).map (m :: ·) = _
        rw [ih]
        rfl
    rw [z ns] at en
    exact (Option.some.inj en).symm
  subst this
  exact ⟨_, ns', z, j, rfl, by rw [ez], .inr hk, hj, hno, k _ δ2 _ H2 hq E2 g2 rfl⟩
/-! ### len(set(list)) of few texts -/
def lsetD (e : DEx) : DEx := fun δ Q Xd => e δ (fun d δ1 => onLst (fun ds => onSome (fun ns => ns.length ≤ 1 ∧ Q (.int ns.length) δ1) (allStr ds)) d) Xd
theorem de_lenSet {e : Expr} {ee : DEx} {p p2 q : Pos} (hc : X.calm = true) (hg : Gl X "len") (hm : X.mg "len" = none) (hg2 : Gl X "set") (hm2 : X.mg "set" = none) (he : DE X g W e ee)
    (na : starEach [e] X.env = (false, eval e X.env) :: starEach [] X.env := by rfl) : DE X g W (.Call (.Name "len" p) [.Call (.Name "set" p2) [e] [] q] [] pos) (lsetD ee) := by
  refine ⟨(pe_lenSet hc hg hm hg2 hm2 he.pe na).imp fun σ H Q q => ?_⟩
  obtain ⟨M, δ, Qd, Xd, E, h, k, kx⟩ := q
  refine ⟨M, δ, _, Xd, E, h, fun d δ1 v H1 h1 E1 g1 r1 => ?_, kx⟩
  obtain ⟨ds, a, vs, _, ev, l, rs, h2⟩ := lst_of r1 h1
  obtain ⟨ns, en, hl, hq⟩ := onSome_of h2
  obtain ⟨e1, _⟩ := allStr_reps rs en
  subst e1
  exact ⟨a, ns, ev, .inl l.sq, hl, k _ δ1 _ H1 hq E1 g1 rfl⟩
end
end Dn

set_option Elab.async false
set_option linter.all false
set_option maxRecDepth 100000
set_option maxHeartbeats 4000000
namespace Dn
open PySem PySem.Spec PyProof.Rows L2
/-! ### defs by name -/
structure DefOk (P : Program) (w : World) (K : PySem.W.Frag) (mg : Str → Option Value) (base : Heap) (k : Nat) (x : Str) (ps : List Str) (sp : Sp) : Prop where
  ex : ∃ fd, FnOk P w K mg base (L2.CX P w) k (He.ga K x) fd ps sp ∧ PySem.W.keepIn K (.ref (He.ga K x)) = true ∧ Binds K fd ps []
theorem hu_in {k : Nat} {A : Around} (hr : Room k A) : A.units + 65 < cLine := by
  have := hr.un
  omega
theorem hu_64 {k : Nat} {A : Around} (hr : Room k A) : A.units + 64 < cLine := by
  have := hr.un
  omega
section
variable {X : Cx} {g : GX} {W : WX} {pos : Pos} {x : Str} {p : Pos} {e : Expr} {es : List Expr} {as : DAx} {j k : Nat} {ps : List Str}
theorem de_callZ {wp : Wp} (F : DefOk X.prog X.w X.K X.mg X.base j x ps (spP X.K wp)) (hr : Room k X.A) (hg : Gl X x) (hm : X.mg x = some (.ref (He.ga X.K x))) (tk : Takes X W)
    (ha : DA X g W (e :: es) as) (hjk : j ≤ k := by decide) (hdb : (x == ("__debug__" : Str)) = false := by decide) (he : starEach (e :: es) X.env = (false, eval e X.env) :: starEach es X.env := by rfl) (hpl : (backTo pos (starEach es X.env)).any (·.1) = false := by rfl) :
    DE X g W (.Call (.Name x p) (e :: es) [] pos) (callD wp as) := by
  obtain ⟨fd, F, hk, hb⟩ := F.ex
  exact de_call F (hr.mono hjk) hg hm hk hb tk ha hdb he hpl
theorem df_callZ {wp : Wp} (F : DefOk X.prog X.w X.K X.mg X.base j x ps (spP X.K wp)) (hr : Room k X.A) (hg : Gl X x) (hm : X.mg x = some (.ref (He.ga X.K x))) (tk : Takes X W)
    (ha : DA X g W (e :: es) as) (hjk : j ≤ k := by decide) (hdb : (x == ("__debug__" : Str)) = false := by decide) (he : starEach (e :: es) X.env = (false, eval e X.env) :: starEach es X.env := by rfl) (hpl : (backTo pos (starEach es X.env)).any (·.1) = false := by rfl) :
    DF X g W (.Call (.Name x p) (e :: es) [] pos) (callF wp as) := by
  obtain ⟨fd, F, hk, hb⟩ := F.ex
  exact df_call F (hr.mono hjk) hg hm hk hb tk ha hdb he hpl
theorem de_callHZ {wp : WpH} {i : Nat} {a : Expr} (F : DefOk X.prog X.w X.K X.mg X.base j x ps (spH X.K wp)) (hr : Room k X.A) (hg : Gl X x) (hm : X.mg x = some (.ref (He.ga X.K x))) (tk : Takes X W)
    (hv : PE X a (tVar i)) (ha : DA X g W es as) (hjk : j ≤ k := by decide) (hdb : (x == ("__debug__" : Str)) = false := by decide) (he : starEach (a :: es) X.env = (false, eval a X.env) :: starEach es X.env := by rfl) (hpl : (backTo pos (starEach es X.env)).any (·.1) = false := by rfl) :
    DE X g W (.Call (.Name x p) (a :: es) [] pos) (callH wp i as) := by
  obtain ⟨fd, F, hk, hb⟩ := F.ex
  exact de_callH F (hr.mono hjk) hg hm hk hb tk hv ha hdb he hpl
/-- .. a class -/
structure MakeOk (P : Program) (w : World) (K : PySem.W.Frag) (mg : Str → Option Value) (base : Heap) (k : Nat) (C : Str) (ps : List Str) (wp : WpI) : Prop where
  ex : ∃ fd, Mk K (He.ga K C) (He.ma K (He.ga K C) "__init__") ∧ FnOk P w K mg base (L2.CX P w) k (He.ma K (He.ga K C) "__init__") fd ps (spI K C wp) ∧ Binds K fd ps []
theorem de_makeZ {wp : WpI} (F : MakeOk X.prog X.w X.K X.mg X.base j x ps wp) (hr : Room k X.A) (hg : Gl X x) (hm : X.mg x = some (.ref (He.ga X.K x)))
    (ha : DA X g W (e :: es) as) (hjk : j + 1 ≤ k := by decide) (hdb : (x == ("__debug__" : Str)) = false := by decide) (he : starEach (e :: es) X.env = (false, eval e X.env) :: starEach es X.env := by rfl) (hpl : (backTo pos (starEach es X.env)).any (·.1) = false := by rfl) :
    DE X g W (.Call (.Name x p) (e :: es) [] pos) (makeD x wp as) := by
  obtain ⟨fd, M, F, hb⟩ := F.ex
  exact de_make M F (hr.mono hjk) hg hm hb ha hdb he hpl
theorem loc_b {sc : Scope} {x : Str} (h : (decide (sc.names.lookup x = some .local) || decide (sc.names.lookup x = some .cell)) = true) : Loc sc x := by
  rw [Bool.or_eq_true] at h
  exact h.imp of_decide_eq_true of_decide_eq_true
/-! ### facts -/
theorem ktup_of {K : Fr} {a : Addr} {vs : List V} (h : ∀ H, SqT K H a vs) : KTup K a vs := by
  rcases h (fun _ => none) with (h | ⟨o, h⟩) | h
  · cases h
  · cases h
  · exact h
theorem reps_strs {K : Fr} {M : Ad} {H : Hp} : ∀ ns : List Str, Reps K M H (ns.map D.str) (ns.map V.str)
  | [] => rfl
  | n :: ns => ⟨.str n, ns.map V.str, rfl, rfl, reps_strs ns⟩
def tupN (K : Fr) (x : Str) : Bool := match K.lookup (He.ga K x) with
  | some ⟨.type c, none, _, _⟩ => decide (c = "tuple")
  | _ => false
theorem tupN_ok {K : Fr} {x : Str} (h : tupN K x = true) : ∃ o, K.lookup (He.ga K x) = some o ∧ o.cls = .type "tuple" ∧ o.dict = none := by
  unfold tupN at h
  split at h
  · rename_i c d sl e
    exact ⟨_, e, by rw [of_decide_eq_true h], rfl⟩
  · cases h
theorem b_isinstance : bootBuiltins "isinstance" = some (.builtin "isinstance") := by decide +kernel
theorem b_len : bootBuiltins "len" = some (.builtin "len") := by decide +kernel
theorem b_sum : bootBuiltins "sum" = some (.builtin "sum") := by decide +kernel
theorem b_all : bootBuiltins "all" = some (.builtin "all") := by decide +kernel
theorem b_any : bootBuiltins "any" = some (.builtin "any") := by decide +kernel
theorem b_max : bootBuiltins "max" = some (.builtin "max") := by decide +kernel
theorem b_min : bootBuiltins "min" = some (.builtin "min") := by decide +kernel
theorem b_abs : bootBuiltins "abs" = some (.builtin "abs") := by decide +kernel
theorem b_sorted : bootBuiltins "sorted" = some (.builtin "sorted") := by decide +kernel
theorem b_int : bootBuiltins "int" = some (.type "int") := by decide +kernel
theorem b_bool : bootBuiltins "bool" = some (.type "bool") := by decide +kernel
theorem b_str : bootBuiltins "str" = some (.type "str") := by decide +kernel
theorem b_tuple : bootBuiltins "tuple" = some (.type "tuple") := by decide +kernel
theorem b_list : bootBuiltins "list" = some (.type "list") := by decide +kernel
theorem b_enumerate : bootBuiltins "enumerate" = some (.type "enumerate") := by decide +kernel
theorem b_zip : bootBuiltins "zip" = some (.type "zip") := by decide +kernel
/-! ### readings with names -/
def ixO (i : Nat) (eb : DEx) : DEx := fun δ Q Xd => ownV i δ (fun _ δ0 => eb δ0 (fun j δ2 => ownV i δ2 (fun ds _ => onI (fun j => onSome (fun d => Q d δ2) (atI ds j)) j) Xd) Xd) Xd
def ixLD (ex ee : DEx) : DEx := fun δ Q Xd => ex δ (fun x δ1 => onLst (fun ds => ee δ1 (fun y δ2 => dIxS (.lst ds) y fun z => Q z δ2) Xd) x) Xd
def ixTD (ns : List Str) (ee : DEx) : DEx := fun δ Q Xd => ee δ (fun y δ2 => dIxS (.tup (ns.map D.str)) y fun z => Q z δ2) Xd
/-- name = [.. for ..] on one line -/
theorem ps_lcZ {i : Nat} {y : Str} {py spos : Pos} {elt tg iter : Expr} {ifs : List Expr} {scope : Scope} {own : List (Str × Nat)} {it : DIx} {ts : List Nat} {gt : DGt} {tst : DTx} {ee : DEx} (hy : X.N[i]? = some y) (hyl : X.env.scope.names.lookup y = some .local)
    (hsw : swapsWith (.ListComp elt [⟨tg, iter, ifs, 0⟩] scope pos) (some (.Name y py)) spos.line X.env = pure true) (hc : X.calm = true) (hN : X.N.Nodup) (hi : DI X g W tg iter it) (ok : BlkOk X.N X.env.scope scope own)
    (hts : ∀ i ∈ ts, i ∈ own.map (·.2))
    (hg : ∀ (s : Shared) (H : Hp) (C : Addr) (cl : List (Str × Addr)) (fp : List Addr), DG (X.blk s H scope (compEnvC scope cl C X.env) fp) g tg ts gt) (ht : ∀ (s : Shared) (H : Hp) (C : Addr) (cl : List (Str × Addr)) (fp : List Addr), DTs (X.blk s H scope (compEnvC scope cl C X.env) fp) g noW ifs tst)
    (he : ∀ (s : Shared) (H : Hp) (C : Addr) (cl : List (Str × Addr)) (fp : List Addr), DE (X.blk s H scope (compEnvC scope cl C X.env) fp) g noW elt ee) (hs : ∀ x, foldedSetIterable iter X.env x = pure x := by intro _; rfl) :
    PS X (.Assign [.Name y py] (.ListComp elt [⟨tg, iter, ifs, 0⟩] scope pos) spos) (tAsg (cF X.K g W (lcF it gt tst ee (own.map (·.2)))) (gName i)) :=
  ps_lc hc hN hy hyl hsw hi ok hts hg ht he hs
end
end Dn

set_option Elab.async false
set_option linter.all false
set_option maxRecDepth 100000
set_option maxHeartbeats 4000000
namespace Dn
open PySem PySem.Spec PyProof.Rows L2
open AutoSeq1 (wpAny_loadPart')
/-! ### enumerate(tuple) -/
theorem meets_enumT (l : Addr) (items : Array Value) (n : Nat) (dct : Option Addr) (sl : Array (Option Value)) :
    Meets (Builtin.«enumerate.__new__» ⟨[.type "enumerate", .ref l], []⟩) (fun _ R s => s.heap.get? l = some { cls := .type "tuple", dict := dct, data := .seq items n, slots := sl } ∧
      R (.ok (.ret (.ref (s.heap.push { cls := .type "tuple_iterator", data := .fields #[.ref l, .int 0 0] }).objs.size)))
        { s with heap := (s.heap.push { cls := .type "tuple_iterator", data := .fields #[.ref l, .int 0 0] }).push { cls := .type "enumerate", data := .fields #[.none, .bool false, .ref s.heap.objs.size, rawInt 0, .none, .none] } }) :=
  .of_wp fun prog w A R s h => by
    obtain ⟨hp, g, d, tk, os⟩ := s
    obtain ⟨hl, h⟩ := h
    have hsub := sub_enumerate
    have hT : Heap.IsTuple (Shared.heap ⟨hp, g, d, tk, os⟩) l items := ⟨_, hl, rfl, n, rfl⟩
    wp_walk using wpAny_loadPart' hl
    refine wpAny_stack_any fun st => wpAny_pure ?_
    split
    · rename_i c _ _ _ _ _
      cases (c == Value.type "enumerate")
      · wp_walk using wpAny_loadPart' hl, wpAny_pyIter_tuple hT
        exact ⟨_, rfl, h⟩
      · wp_walk using wpAny_loadPart' hl, wpAny_pyIter_tuple hT
        exact ⟨_, rfl, h⟩
    · wp_walk using wpAny_loadPart' hl, wpAny_pyIter_tuple hT
      exact ⟨_, rfl, h⟩
section
variable {prog : Program} {w : World} {A : Around} {E : Value → Shared → Prop} {s : Shared}
theorem call_enumT {l : Addr} {items : Array Value} {Q : Value → Shared → Prop} (hL : s.heap.IsTuple l items)
    (h : ∀ h', IsEnum h' (s.heap.objs.size + 1) s.heap.objs.size 0 .none → h'.IsTupleIter s.heap.objs.size l 0 → h'.objs.size = s.heap.objs.size + 2 →
      (∀ b o, s.heap.get? b = some o → h'.get? b = some o) → Q (.ref (s.heap.objs.size + 1)) { s with heap := h' }) :
    wpAny (model prog w) A (call (.type "enumerate") [.ref l]) Q E s := by
  obtain ⟨⟨c, dct, dt, sl⟩, hl, hc, n, hd⟩ := hL
  replace hc : c = .type "tuple" := hc
  replace hd : dt = .seq items n := hd
  subst hc hd
  refine callType_new F.called_enumerate (by decide) (F.typeCall_enumerate_1 _) (F.newCall_enumerate_1 _) (fun obj => F.args_object_init_2 obj _) F.entry_enumerate_new
    (meets_enumT l items n dct sl) ⟨hl, ?_⟩
  have hz : (s.heap.push { cls := .type "tuple_iterator", data := .fields #[.ref l, .int 0 0] }).objs.size = s.heap.objs.size + 1 := Heap.size_push ..
  show _ ∧ _
  rw [hz]
  have he : IsEnum ((s.heap.push { cls := .type "tuple_iterator", data := .fields #[.ref l, .int 0 0] }).push
      { cls := .type "enumerate", data := .fields #[.none, .bool false, .ref s.heap.objs.size, rawInt 0, .none, .none] }) (s.heap.objs.size + 1) s.heap.objs.size 0 .none := by
    have := Heap.get?_push_size (s.heap.push { cls := .type "tuple_iterator", data := .fields #[.ref l, .int 0 0] })
      (o := { cls := .type "enumerate", data := .fields #[.none, .bool false, .ref s.heap.objs.size, rawInt 0, .none, .none] }) rfl
    rw [hz] at this
    exact this
  exact ⟨⟨_, he, rfl⟩, h _ he ⟨_, Heap.get?_push_of_some _ (Heap.get?_push_size _ rfl), rfl, rfl⟩ (by rw [Heap.size_push, hz]) fun b o x => Heap.get?_push_of_some _ (Heap.get?_push_of_some _ x)⟩
/-- an iterator that has ended -/
theorem Draws.ended (hh : A.handled = none) (it t : Addr) (items : Array Value) (n : Nat) (hn : items[n]? = none) :
    Draws prog w A it [it, t] n (fun _ _ => False) (fun i h => i = n ∧ h.IsTupleIter it t n ∧ h.IsTuple t items) where
  live := fun _ _ st => let ⟨o, ho, _⟩ := st.2.1; ⟨o, ho⟩
  frame := fun _ _ _ st hk => ⟨st.1, st.2.1.at fun o e => hk it (by simp) o e, st.2.2.at fun o e => hk t (by simp) o e⟩
  item := fun i s Q E hi st hQ => absurd st.1 (Nat.ne_of_lt hi)
  done := fun s Q E st hE => wpAny_nextOf_tuple_end hh st.2.1 st.2.2 hn hE
end
/-- the tuple at a, each item in a new pair -/
def IteT (K : PySem.W.Frag) (a : Addr) : It :=
  ⟨fun i H => ∃ (xs : List V) (x : V), SqT K H a xs ∧ xs[i]? = some x, fun i H v H' => ∃ T x, v = .ref T ∧ H T = none ∧ H' = upd H T (.tup [.int (i : Nat), x]) ∧ ∀ xs, SqT K H a xs → xs[i]? = some x, fun i H => ∃ xs : List V, SqT K H a xs ∧ xs.length ≤ i⟩
theorem turn_enumT {P : Program} {w : World} {K : PySem.W.Frag} {elts : List Expr} {kk : Nat} {tpos : Pos} (a e it : Addr) :
    Turn P w K (.Tuple elts kk tpos) (IteT K a) [e, it] e (fun i h => (∃ old, IsEnum h e it ((i : Nat) : Int) old) ∧ h.IsTupleIter it a i ∧ e ≠ it) where
  mem := by simp
  obj := fun i h st b hb => by
    obtain ⟨⟨old, he⟩, ⟨o, ho, hc, hd⟩, _⟩ := st
    have e' : b = e ∨ b = it := by simpa using hb
    rcases e' with z | z
    · rw [z]; exact ⟨_, he, fun v q => nomatch q⟩
    · rw [z]; exact ⟨o, ho, fun v q => by rw [hd] at q; cases q⟩
  keep := fun i h h' st k => let ⟨⟨old, he⟩, hi, hne⟩ := st; ⟨⟨old, k e (by simp) _ he⟩, hi.at fun o q => k it (by simp) o q, hne⟩
  item := by
    intro X hP hw hK hc i pins s σ H E I hf st hg
    subst hP hw hK
    obtain ⟨⟨old, he⟩, hit, hne⟩ := st
    obtain ⟨xs, x, hq, hx⟩ := hg
    obtain ⟨its, rv, p, hz⟩ := I.tuple hq
    obtain ⟨u, hu, ru⟩ := rv.get hx
    have hel : e < s.heap.objs.size := Heap.lt_size he
    have hil : it < s.heap.objs.size := by obtain ⟨_, q, _⟩ := hit; exact Heap.lt_size q
    have hai : a ≠ it := fun z => by
      obtain ⟨o, ho, _, hd1⟩ := id hit
      obtain ⟨o2, ho2, _, n2, hd2⟩ := id p
      rw [z, ho] at ho2
      cases ho2
      rw [hd1] at hd2
      cases hd2
    have hea : e ≠ a := fun z => by
      obtain ⟨o2, ho2, _, n2, hd2⟩ := id p
      rw [← z, he] at ho2
      cases ho2
      cases hd2
    have hlt : i < its.toArray.size := by simpa using (List.getElem?_eq_some_iff.mp hu).1
    refine wpAny_pyNext_enum_itemD (Draws.tuple (A := X.A.in1) (I.ok.hd hc) it a hai its.toArray) he ⟨hit, p⟩ hlt hne (by simp; exact ⟨hne, hea⟩) fun x' h' tk hx' ho st' hT hsz hk => ?_
    have ex : x' = u := by
      rw [List.getElem?_toArray, hu] at hx'
      exact (Option.some.inj hx').symm
    subst ex
    refine ⟨_, rfl, wpAny_letOwnedTupleGo_enum (s := { s with heap := h', toks := tk + 1 }) ho fun h'' he' sb => ?_⟩
    have hT2 : h''.get? s.heap.objs.size = some { cls := .type "tuple", data := .seq #[.int i tk, x'] } := (sb.2 _ (Nat.ne_of_gt hel)).trans hT
    have new : ObjOk X.prog X.w (upd H s.heap.objs.size (.tup [.int (i : Nat), x])) h'' s.heap.objs.size (.tup [.int (i : Nat), x]) :=
      ⟨by show 2 ≤ sizeLine; decide, [.int i tk, x'], .cons ⟨_, rfl⟩ (.cons ru .nil), ⟨_, hT2, rfl, _, rfl⟩⟩
    have I1 : Inv X pins σ (upd H s.heap.objs.size (.tup [.int (i : Nat), x])) { s with heap := h'', toks := tk + 1 } :=
      I.turnedNew (ch := [e, it]) (fun b ob hb q => (sb.2 b (fun z => hb (by simp [z]))).trans (hk b ob (fun z => hb (by simp [z])) (fun z => hb (by simp [z])) q)) hf (Nat.le_refl _) new
    refine ⟨.ref s.heap.objs.size, _, I1, rfl, ⟨_, x, rfl, I.hok.fresh (Nat.le_refl _), rfl, fun ys hy => by rw [I.tuple_inj hy hq]; exact hx⟩, ⟨⟨x', ?_⟩, st'.1.at fun o q => (sb.2 it (Ne.symm hne)).trans q, hne⟩, fun b hb => ?_⟩
    · have e1 : ((i + 1 : Nat) : Int) = (i : Int) + 1 := by omega
      rw [e1]; exact he'
    · have hb' : b < s.heap.objs.size := by
        have e' : b = e ∨ b = it := by simpa using hb
        rcases e' with z | z
        · rw [z]; exact hel
        · rw [z]; exact hil
      rw [upd_ne (Nat.ne_of_lt hb')]
      exact (hf b hb).1
  done := by
    intro X hP hw hK hc i pins s σ H E I hf st hg
    subst hP hw hK
    obtain ⟨⟨old, he⟩, hit, hne⟩ := st
    obtain ⟨xs, hq, hx⟩ := hg
    obtain ⟨its, rv, p, hz⟩ := I.tuple hq
    obtain ⟨f0, f1, f2, f3, f4, f5⟩ := hf it (by simp)
    have hl := rv.length
    exact wpAny_pyNext_enum_endD (Draws.ended (A := X.A.in1) (I.ok.hd hc) it a its.toArray i (by simp; omega)) he ⟨rfl, hit, p⟩ fun h' eb => ⟨rfl, I.turned (t' := s.toks) (fun b o hb q => eb b o hb q) f0 f1 f3 f4 f5⟩
  self := fun A i s Q E st h => let ⟨⟨_, he⟩, _⟩ := st; wpAny_pyIter_enum he h
def iEnumT (K : PySem.W.Frag) (ta : TA) : TI := fun σ H R => ta σ H fun vs H1 => ∃ a xs, vs = [.ref a] ∧ SqT K H1 a xs ∧ R (IteT K a) H1
theorem pi_enumT {X : Cx} {e : Expr} {ta : TA} {p pos tpos : Pos} {elts : List Expr} {kk : Nat} (hg : Gl X "enumerate") (hm : X.mg "enumerate" = none) (ha : PA X [e] ta) (hs : starEach [e] X.env = [(false, eval e X.env)] := by rfl) :
    PI X (.Tuple elts kk tpos) (.Call (.Name "enumerate" p) [e] [] pos) (iEnumT X.K ta) := by
  refine ⟨fun pins s σ H R I h => ?_⟩
  refine Call_ (ld_blt I hg hm boot_enumerate (PyProof.Rows.callWith_type1 (thn (ha.run pos pins s σ H _ I h) fun us s1 ⟨vs, H1, I1, r1, q1⟩ => ?_) hs rfl))
  obtain ⟨a, xs, ex, hq, q⟩ := q1
  subst ex
  cases r1 with
  | cons r rr =>
    cases rr
    cases r
    obtain ⟨its, rv, p', hz⟩ := I1.tuple hq
    refine call_enumT p' fun h' he hit hsz hk => wpAny_pyIter_enum he ?_
    have I2 : Inv X pins σ H1 { s1 with heap := h' } := I1.kept (t' := s1.toks) hk
    refine ⟨s1.heap.objs.size + 1, [s1.heap.objs.size + 1, s1.heap.objs.size], _, _, H1, rfl, I2, turn_enumT a (s1.heap.objs.size + 1) s1.heap.objs.size, ⟨⟨.none, he⟩, hit, Nat.succ_ne_self _⟩, fun b hb => ?_, q⟩
    have e' : b = s1.heap.objs.size + 1 ∨ b = s1.heap.objs.size := by simpa using hb
    have hle : s1.heap.objs.size ≤ b := by
      rcases e' with z | z
      · rw [z]; exact Nat.le_add_right _ _
      · rw [z]; exact Nat.le_refl _
    exact I1.fpOk hle (I1.hok.fresh hle)
section
variable {K : Fr} {M : Ad} {H : Hp}
theorem wk_enumT {a : Addr} {vs : List V} {ds : List D} (l : TupAt K M H a vs) (r : Reps K M H ds vs) : Wk K M (IteT K a) H (enumD ds) where
  go := fun M' H' gr dom i d h => by
    obtain ⟨e, he, ed⟩ := enumD_get h
    obtain ⟨v, hv, rv⟩ := r.get he
    refine ⟨⟨vs, v, (l.grow gr).sq, hv⟩, fun x H'' hy => ?_⟩
    obtain ⟨T, z, ex, hT, eH, hz⟩ := hy
    subst ex eH ed
    have ez : z = v := by
      have := hz vs (l.grow gr).sq
      rw [hv] at this
      exact (Option.some.inj this).symm
    subst ez
    exact rep_pair dom hT rfl (rv.grow gr)
  stop := fun M' H' gr i hi => ⟨vs, (l.grow gr).sq, by rw [← r.length, ← enumD_length]; exact hi⟩
end
section
variable {X : Cx} {g : GX} {W : WX} {tg e e2 : Expr} {p pos : Pos}
def ietD (as : DAx) : DIx := fun δ Q Xd => as δ (fun ds δ1 => on1 (onTup fun es => Q (enumD es) δ1) ds) Xd
theorem di_enumT {as : DAx} {elts : List Expr} {kk : Nat} {tpos : Pos} (hg : Gl X "enumerate") (hm : X.mg "enumerate" = none) (ha : DA X g W [e] as) (hs : starEach [e] X.env = [(false, eval e X.env)] := by rfl) :
    DI X g W (.Tuple elts kk tpos) (.Call (.Name "enumerate" p) [e] [] pos) (ietD as) := by
  refine ⟨(pi_enumT hg hm ha.pa hs).imp fun σ H R q => ?_⟩
  obtain ⟨M, δ, Qd, Xd, E, h, k, kx⟩ := q
  refine ⟨M, δ, _, Xd, E, h, fun ds δ1 vs H1 h1 E1 g1 r1 => ?_, kx⟩
  obtain ⟨d, v, _, ev, r2, h2⟩ := one_of r1 h1
  obtain ⟨es, a, us, _, ea, l, rs, hq⟩ := tup_of r2 h2
  exact ⟨a, us, by rw [ev, ea], l.sq, k _ δ1 H1 _ hq E1 g1 (wk_enumT l rs)⟩
end
end Dn

set_option Elab.async false
set_option linter.all false
set_option maxRecDepth 100000
set_option maxHeartbeats 4000000
namespace Dn
open PySem PySem.Spec PyProof.Rows L2
theorem fn_never {P : Program} {w : World} {K : PySem.W.Frag} {mg : Str → Option Value} {base : Heap} {CX : CXT} {k : Nat} {f : Addr} {fd : FuncData} {ps : List Str} : FnOk P w K mg base CX k f fd ps (spP K fun _ _ _ => False) :=
  ⟨fun _ _ _ _ h => by obtain ⟨_, _, _, _, _, _, _, z, _⟩ := h; exact z.elim, fun _ _ _ _ _ _ _ _ _ _ _ _ _ h => by obtain ⟨_, _, _, _, _, _, _, z, _⟩ := h; exact z.elim⟩
/-! ### max(tuple of ints) -/
theorem holdAll_ints {h : Heap} : ∀ {ns : List Int} {its : List Value}, Vals (ns.map V.int) its → PySem.W.HoldAll h its ns
  | [], its, r => by
    cases r
    exact .nil
  | n :: ns, its, r => by
    cases r with
    | cons r1 r2 =>
      obtain ⟨t, rfl⟩ := r1
      exact .cons (PySem.W.holds_int n t) (holdAll_ints r2)
theorem maxOf_is : ∀ (x : Int) (xs : List Int), PySem.W.maxOf x xs ∈ x :: xs ∧ ∀ y ∈ x :: xs, y ≤ PySem.W.maxOf x xs
  | x, [] => ⟨List.mem_cons_self .., fun y hy => by
      rw [List.mem_singleton.mp hy]
      exact Int.le_refl _⟩
  | x, z :: zs => by
    have e : PySem.W.maxOf x (z :: zs) = PySem.W.maxOf (if decide (x < z) = true then z else x) zs := rfl
    rw [e]
    obtain ⟨h1, h2⟩ := maxOf_is (if decide (x < z) = true then z else x) zs
    have hm := h2 _ (List.mem_cons_self ..)
    refine ⟨?_, fun y hy => ?_⟩
    · rcases List.mem_cons.mp h1 with h | h
      · rw [h]
        split
        · exact List.mem_cons_of_mem _ (List.mem_cons_self ..)
        · exact List.mem_cons_self ..
      · exact List.mem_cons_of_mem _ (List.mem_cons_of_mem _ h)
    · rcases List.mem_cons.mp hy with h | h
      · rw [h]
        refine Int.le_trans ?_ hm
        split
        · rename_i hz
          exact Int.le_of_lt (of_decide_eq_true hz)
        · exact Int.le_refl _
      · rcases List.mem_cons.mp h with h | h
        · rw [h]
          refine Int.le_trans ?_ hm
          split
          · exact Int.le_refl _
          · rename_i hz
            have hz2 : ¬ x < z := fun q => hz (decide_eq_true q)
            omega
        · exact h2 y (List.mem_cons_of_mem _ h)
def rMaxT (K : PySem.W.Frag) : List V → Hp → VK → Prop := fun vs H Q => ∃ (a : Addr) (ns : List Int), vs = [V.ref a] ∧ SqT K H a (ns.map V.int) ∧ 0 < ns.length ∧ ∀ m, m ∈ ns → (∀ y, y ∈ ns → y ≤ m) → Q (.int m) H
theorem call_maxT {X : Cx} (hc : X.calm = true) (hu : X.A.units + 64 < cLine) : CallR X (.builtin "max") (rMaxT X.K) := by
  intro pins s σ H vs us Q I r h
  obtain ⟨a, ns, rfl, hs, hne, q⟩ := h
  obtain ⟨its, rv, hl, _⟩ := I.tuple hs
  rw [Vals.ref1 r]
  cases ns with
  | nil => cases hne
  | cons n ns =>
    refine PySem.W.max_tuple_datum (α := Int) (x := n) (xs := ns) (I.ok.hd hc) hl (by simpa using holdAll_ints rv) (by show X.A.units + 1 + 0 < cLine; omega) fun i v h' tk hi hm hk => ?_
    obtain ⟨t, rfl⟩ := PySem.W.int_of_holds hm
    obtain ⟨h1, h2⟩ := maxOf_is n ns
    exact ⟨.int _, H, I.kept hk, ⟨_, rfl⟩, q _ h1 h2⟩
abbrev cMaxT : DC := fun ds P => on1 (onTup fun es => onSome (fun ns => 0 < ns.length ∧ ∀ m, m ∈ ns → (∀ y, y ∈ ns → y ≤ m) → P (.int m)) (dInts es)) ds
theorem ok_maxT {K : Fr} : CROk K (rMaxT K) cMaxT := fun M H ds vs Q P dom r hf k => by
  obtain ⟨d, v, _, ev, rv, h⟩ := one_of r hf
  obtain ⟨es, a, us, _, ea, t, rs, h⟩ := tup_of rv h
  obtain ⟨ns, en, hl, h⟩ := onSome_of h
  rw [dInts_reps rs en] at t
  exact ⟨a, ns, by rw [ev, ea], t.sq, hl, fun m h1 h2 => k _ _ H (h m h1 h2) (Same.refl _) rfl⟩
end Dn

set_option Elab.async false
set_option linter.all false
set_option maxRecDepth 100000
set_option maxHeartbeats 4000000
namespace Dn
open PySem PySem.Spec PyProof.Rows L2
open AutoSeq1 (wpAny_loadPart')
/-! ### enumerate(zip(tuple, tuple)) -/
abbrev ZipB (h : Heap) (z TI TO : Addr) (f0 : Value) (b : Bool) : Prop := h.get? z = some { cls := .type "zip", dict := none, data := .fields #[f0, .bool b, .bool false, .ref TI, .ref TO], slots := #[] }
section
variable {prog : Program} {w : World} {A : Around} {E : Value → Shared → Prop} {s : Shared} {z TI TO T i1 i2 e : Addr} {fp1 fp2 : List Addr} {n1 n2 i : Nat} {P1 P2 : Nat → Value → Prop} {St1 St2 : Nat → Heap → Prop} {a1 a2 : Value} {b : Bool} {oT : Obj}
theorem wpAny_alive {a : Addr} {o : Obj} {Q : Option Obj → Shared → Prop} (h : s.heap.get? a = some o) (q : Q (some o) s) : wpAny (model prog w) A (loadIfAlive a) Q E s := fun Γ p _ => by
  unfold loadIfAlive
  rw [PySem.Sem.wp_loadIfAlive, h]
  exact q
theorem wpAny_gone {a : Addr} {Q : Option Obj → Shared → Prop} (h : s.heap.get? a = none) (q : Q none s) : wpAny (model prog w) A (loadIfAlive a) Q E s := fun Γ p _ => by
  unfold loadIfAlive
  rw [PySem.Sem.wp_loadIfAlive, h]
  exact q
/-- the zip gave a tuple out that still stands: it makes new ones -/
theorem owned_kept {Q : Bool → Shared → Prop} (hz : ZipB s.heap z TI TO (rawInt (T : Nat)) b) (hT : s.heap.get? T = some oT) (h : ∀ h', ZipB h' z TI TO (rawInt (T : Nat)) true → Heap.SameBut z s.heap h' → Q false { s with heap := h' }) :
    wpAny (model prog w) A (Builtin.SmallTypes.ownedTupleIsFree (.ref z)) Q E s := by
  unfold Builtin.SmallTypes.ownedTupleIsFree
  refine wpAny_bind (wpAny_field hz rfl (x := rawInt (T : Nat)) rfl ?_)
  show wpAny _ _ (loadIfAlive (Int.toNat ((T : Nat) : Int)) >>= _) _ _ _
  refine wpAny_bind (wpAny_alive (o := oT) (by rw [Int.toNat_natCast]; exact hT) ?_)
  simp only [Option.isNone_some, Bool.false_eq_true, if_false]
  refine wpAny_bind (wpAny_field hz rfl (x := .bool b) rfl ?_)
  cases b with
  | true =>
    simp only [bne_self_eq_false, Bool.false_eq_true, if_false]
    exact wpAny_pure (h s.heap hz ⟨rfl, fun _ _ => rfl⟩)
  | false =>
    have hb : (Value.bool false != Value.bool true) = true := by decide
    rw [if_pos hb]
    refine wpAny_bind (wpAny_setField_rec hz (by simp) fun h' hz' hs' => ?_)
    exact wpAny_pure (h h' hz' hs')
theorem zipK_item {Q : Value → Shared → Prop} (S : ZipSep2 z TI TO i1 i2 fp1 fp2) (D1 : Draws prog w A i1 fp1 n1 P1 St1) (D2 : Draws prog w A i2 fp2 n2 P2 St2)
    (hz : ZipB s.heap z TI TO (rawInt (T : Nat)) b) (hTI : IsTupOf2 s.heap TI (.ref i1) (.ref i2)) (hT : s.heap.get? T = some oT) (st1 : St1 i s.heap) (st2 : St2 i s.heap) (hlt1 : i < n1) (hlt2 : i < n2)
    (hQ : ∀ x1 x2 h' tk, P1 i x1 → P2 i x2 → ZipB h' z TI TO (rawInt (T : Nat)) true → St1 (i + 1) h' → St2 (i + 1) h' → IsTupOf2 h' s.heap.objs.size x1 x2 → h'.objs.size = s.heap.objs.size + 1 →
      (∀ c o, c ≠ z → c ≠ i1 → c ≠ i2 → s.heap.get? c = some o → h'.get? c = some o) → Q (.ref s.heap.objs.size) { s with heap := h', toks := tk }) :
    wpAny (model prog w) A (Builtin.«zip.__next__» ⟨[.ref z], []⟩) (fun fin s' => ∃ v, fin = .done (.ret v) ∧ Q v s') E s := by
  obtain ⟨hp, g, d, tk0, os⟩ := s
  show wpAny _ _ (field (.ref z) 2 >>= _) _ _ _
  refine wpAny_bind (wpAny_field hz rfl (x := .bool false) rfl ?_)
  show wpAny _ _ (field (.ref z) 3 >>= _) _ _ _
  refine wpAny_bind (wpAny_field hz rfl (x := .ref TI) rfl ?_)
  refine wpAny_bind (wpAny_seqItems hTI rfl ?_)
  show wpAny _ _ (Builtin.SmallTypes.ownedTupleIsFree (.ref z) >>= _) _ _ _
  refine wpAny_bind (owned_kept hz hT fun g0 hz0 hs0 => ?_)
  replace hs0 : Heap.SameBut z hp g0 := hs0
  simp only [Bool.false_eq_true, if_false]
  refine wpAny_bind ?_
  rw [← Array.forIn_toList]
  simp only [List.forIn_cons, List.forIn_nil]
  refine wpAny_bind (wpAny_bind (wpAny_holding ?_))
  show wpAny _ _ (Builtin.SmallTypes.nextOf (.ref i1) >>= _) _ _ ⟨g0, g, d, tk0, os⟩
  refine wpAny_bind (D1.item i _ _ _ hlt1 (D1.over st1 hs0 S.zf1) fun x1 p1 tk1 hx1 sn1 hp1 => wpAny_pure ?_)
  replace hp1 : Heap.SameBut i1 g0 p1 := hp1
  refine wpAny_pure ?_
  refine wpAny_bind (wpAny_bind (wpAny_holding ?_))
  show wpAny _ _ (Builtin.SmallTypes.nextOf (.ref i2) >>= _) _ _ ⟨p1, g, d, tk1, os⟩
  refine wpAny_bind (D2.item i _ _ _ hlt2 (D2.over (D2.over st2 hs0 S.zf2) hp1 S.sep1_2) fun x2 p2 tk2 hx2 sn2 hp2 => wpAny_pure ?_)
  replace hp2 : Heap.SameBut i2 p1 p2 := hp2
  refine wpAny_pure ?_
  refine wpAny_pure ?_
  show wpAny _ _ (newTuple [x1, x2] >>= _) _ _ ⟨p2, g, d, tk2, os⟩
  refine wpAny_bind (wpAny_newTuple ?_)
  have hsz : p2.objs.size = hp.objs.size := by rw [hp2.1, hp1.1, hs0.1]
  have hzz : ZipB p2 z TI TO (rawInt (T : Nat)) true := hp2.extBut _ _ S.zi2 (hp1.extBut _ _ S.zi1 hz0)
  have kk : ∀ c o, c ≠ z → c ≠ i1 → c ≠ i2 → hp.get? c = some o → (p2.push { cls := .type "tuple", data := .seq #[x1, x2] }).get? c = some o := fun c o cz c1 c2 e =>
    Heap.get?_push_of_some _ (hp2.extBut _ _ c2 (hp1.extBut _ _ c1 (hs0.extBut _ _ cz e)))
  refine wpAny_pure ⟨_, rfl, ?_⟩
  show Q (.ref p2.objs.size) ⟨p2.push { cls := .type "tuple", data := .seq #[x1, x2] }, g, d, tk2, os⟩
  have hTn : IsTupOf2 (p2.push { cls := .type "tuple", data := .seq #[x1, x2] }) p2.objs.size x1 x2 := Heap.get?_push_size _ rfl
  rw [hsz] at hTn ⊢
  exact hQ x1 x2 _ tk2 hx1 hx2 (Heap.get?_push_of_some _ hzz) (D1.frame _ _ _ (D1.over sn1 hp2 S.sep2_1) fun _ _ o e => Heap.get?_push_of_some _ e) (D2.frame _ _ _ sn2 fun _ _ o e => Heap.get?_push_of_some _ e) hTn (by rw [Heap.size_push, hsz]) kk
theorem zipK_end {Q : Fin → Shared → Prop} (S : ZipSep2 z TI TO i1 i2 fp1 fp2) (D1 : Draws prog w A i1 fp1 n1 P1 St1) (D2 : Draws prog w A i2 fp2 n2 P2 St2)
    (hz : ZipB s.heap z TI TO (rawInt (T : Nat)) b) (hTI : IsTupOf2 s.heap TI (.ref i1) (.ref i2)) (hT : s.heap.get? T = some oT) (st1 : St1 i s.heap) (st2 : St2 i s.heap) (hle1 : i ≤ n1) (hle2 : i ≤ n2) (hend : i = n1 ∨ i = n2)
    (hE : ∀ h' tk x, (∀ c o, c ≠ z → c ≠ i1 → c ≠ i2 → s.heap.get? c = some o → h'.get? c = some o) → (∃ o, h'.get? x = some o ∧ o.cls = .type "StopIteration") → E (.ref x) { s with heap := h', toks := tk }) :
    wpAny (model prog w) A (Builtin.«zip.__next__» ⟨[.ref z], []⟩) Q E s := by
  obtain ⟨hp, g, d, tk0, os⟩ := s
  show wpAny _ _ (field (.ref z) 2 >>= _) _ _ _
  refine wpAny_bind (wpAny_field hz rfl (x := .bool false) rfl ?_)
  show wpAny _ _ (field (.ref z) 3 >>= _) _ _ _
  refine wpAny_bind (wpAny_field hz rfl (x := .ref TI) rfl ?_)
  refine wpAny_bind (wpAny_seqItems hTI rfl ?_)
  show wpAny _ _ (Builtin.SmallTypes.ownedTupleIsFree (.ref z) >>= _) _ _ _
  refine wpAny_bind (owned_kept hz hT fun g0 hz0 hs0 => ?_)
  replace hs0 : Heap.SameBut z hp g0 := hs0
  simp only [Bool.false_eq_true, if_false]
  refine wpAny_bind ?_
  rw [← Array.forIn_toList]
  simp only [List.forIn_cons, List.forIn_nil]
  refine wpAny_bind (wpAny_bind (wpAny_holding ?_))
  show wpAny _ _ (Builtin.SmallTypes.nextOf (.ref i1) >>= _) _ _ ⟨g0, g, d, tk0, os⟩
  by_cases hlt1 : i < n1
  · refine wpAny_bind (D1.item i _ _ _ hlt1 (D1.over st1 hs0 S.zf1) fun x1 p1 tk1 hx1 sn1 hp1 => wpAny_pure ?_)
    replace hp1 : Heap.SameBut i1 g0 p1 := hp1
    refine wpAny_pure ?_
    have hi2 : i = n2 := by omega
    refine wpAny_bind (wpAny_bind (wpAny_holding ?_))
    show wpAny _ _ (Builtin.SmallTypes.nextOf (.ref i2) >>= _) _ _ ⟨p1, g, d, tk1, os⟩
    refine wpAny_bind (D2.done ⟨p1, g, d, tk1, os⟩ _ _ (by rw [← hi2]; exact D2.over (D2.over st2 hs0 S.zf2) hp1 S.sep1_2) fun q x hq hx => ?_)
    replace hq : Heap.ExtBut i2 p1 q := hq
    exact hE q tk1 x (fun c o cz c1 c2 y => hq _ _ c2 (hp1.extBut _ _ c1 (hs0.extBut _ _ cz y))) hx
  · have hi1 : i = n1 := by omega
    refine wpAny_bind (D1.done ⟨g0, g, d, tk0, os⟩ _ _ (by rw [← hi1]; exact D1.over st1 hs0 S.zf1) fun q x hq hx => ?_)
    replace hq : Heap.ExtBut i1 g0 q := hq
    exact hE q tk0 x (fun c o cz c1 c2 y => hq _ _ c1 (hs0.extBut _ _ cz y)) hx
/-- the tuple that it gave out is gone (or none was given): it hands its own one out -/
theorem owned_free {f0 : Value} {Q : Bool → Shared → Prop} (hz : ZipB s.heap z TI TO f0 b) (hf : f0 = .none ∨ ∃ T : Addr, f0 = rawInt (T : Nat) ∧ s.heap.get? T = none) (h : Q true s) : wpAny (model prog w) A (Builtin.SmallTypes.ownedTupleIsFree (.ref z)) Q E s := by
  unfold Builtin.SmallTypes.ownedTupleIsFree
  rcases hf with e | ⟨T, e, hT⟩
  · subst e
    exact wpAny_bind (wpAny_field hz rfl (x := .none) rfl (wpAny_pure h))
  · subst e
    refine wpAny_bind (wpAny_field hz rfl (x := rawInt (T : Nat)) rfl ?_)
    show wpAny _ _ (loadIfAlive (Int.toNat ((T : Nat) : Int)) >>= _) _ _ _
    refine wpAny_bind (wpAny_gone (by rw [Int.toNat_natCast]; exact hT) ?_)
    simp only [Option.isNone_none, if_true]
    exact wpAny_pure h
theorem zipF_item {f0 : Value} {Q : Value → Shared → Prop} (S : ZipSep2 z TI TO i1 i2 fp1 fp2) (D1 : Draws prog w A i1 fp1 n1 P1 St1) (D2 : Draws prog w A i2 fp2 n2 P2 St2)
    (hz : ZipB s.heap z TI TO f0 b) (hf : f0 = .none ∨ ∃ T : Addr, f0 = rawInt (T : Nat) ∧ s.heap.get? T = none) (hTI : IsTupOf2 s.heap TI (.ref i1) (.ref i2)) (hTO : IsTupOf2 s.heap TO a1 a2) (st1 : St1 i s.heap) (st2 : St2 i s.heap) (hlt1 : i < n1) (hlt2 : i < n2)
    (hQ : ∀ x1 x2 h' tk, P1 i x1 → P2 i x2 → ZipB h' z TI TO (rawInt (s.heap.objs.size : Nat)) false → IsTupOf2 h' TO x1 x2 → St1 (i + 1) h' → St2 (i + 1) h' → IsTupOf2 h' s.heap.objs.size x1 x2 → h'.objs.size = s.heap.objs.size + 1 →
      (∀ c o, c ≠ z → c ≠ TO → c ≠ i1 → c ≠ i2 → s.heap.get? c = some o → h'.get? c = some o) → Q (.ref s.heap.objs.size) { s with heap := h', toks := tk }) :
    wpAny (model prog w) A (Builtin.«zip.__next__» ⟨[.ref z], []⟩) (fun fin s' => ∃ v, fin = .done (.ret v) ∧ Q v s') E s := by
  obtain ⟨hp, g, d, tk0, os⟩ := s
  show wpAny _ _ (field (.ref z) 2 >>= _) _ _ _
  refine wpAny_bind (wpAny_field hz rfl (x := .bool false) rfl ?_)
  show wpAny _ _ (field (.ref z) 3 >>= _) _ _ _
  refine wpAny_bind (wpAny_field hz rfl (x := .ref TI) rfl (wpAny_bind (wpAny_seqItems hTI rfl ?_)))
  show wpAny _ _ (Builtin.SmallTypes.ownedTupleIsFree (.ref z) >>= _) _ _ _
  refine wpAny_bind (owned_free hz hf ?_)
  simp only [if_true]
  refine wpAny_bind (wpAny_rule (wpAny_bind (wpAny_field hz rfl (x := .ref TO) rfl ?_)))
  refine wpAny_bind (wpAny_setField_rec hz (by simp) fun g0 hz0 hs0 => ?_)
  replace hz0 : ZipB g0 z TI TO .ellipsis b := hz0
  replace hs0 : Heap.SameBut z hp g0 := hs0
  refine wpAny_bind ?_
  simp only [List.zipIdx_cons, List.zipIdx_nil, List.forIn_cons, List.forIn_nil]
  refine wpAny_bind (wpAny_bind (wpAny_onRaise ?_))
  show wpAny _ _ (Builtin.SmallTypes.nextOf (.ref i1) >>= _) _ _ ⟨g0, g, d, tk0, os⟩
  refine wpAny_bind (D1.item i _ _ _ hlt1 (D1.over st1 hs0 S.zf1) fun x1 p1 tk1 hx1 sn1 hp1 => wpAny_pure ?_)
  replace hp1 : Heap.SameBut i1 g0 p1 := hp1
  have hU1 : IsTupOf2 p1 TO a1 a2 := hp1.extBut _ _ S.Ti1 (hs0.extBut _ _ S.TOz hTO)
  refine wpAny_bind (wpAny_seqItems (s := ⟨p1, g, d, tk1, os⟩) hU1 rfl (wpAny_bind (updateSeq_IsTupOf2 (s := ⟨p1, g, d, tk1, os⟩) hU1 fun g1 hT1 hs1 => ?_)))
  replace hT1 : IsTupOf2 g1 TO x1 a2 := hT1
  replace hs1 : Heap.SameBut TO p1 g1 := hs1
  refine wpAny_bind (wpAny_letGo (wpAny_pure (wpAny_bind (wpAny_bind (wpAny_onRaise ?_)))))
  show wpAny _ _ (Builtin.SmallTypes.nextOf (.ref i2) >>= _) _ _ ⟨g1, g, d, tk1, os⟩
  refine wpAny_bind (D2.item i _ _ _ hlt2 (D2.over (D2.over (D2.over st2 hs0 S.zf2) hp1 S.sep1_2) hs1 S.Tf2) fun x2 p2 tk2 hx2 sn2 hp2 => wpAny_pure ?_)
  replace hp2 : Heap.SameBut i2 g1 p2 := hp2
  have hU2 : IsTupOf2 p2 TO x1 a2 := hp2.extBut _ _ S.Ti2 hT1
  refine wpAny_bind (wpAny_seqItems (s := ⟨p2, g, d, tk2, os⟩) hU2 rfl (wpAny_bind (updateSeq_IsTupOf2 (s := ⟨p2, g, d, tk2, os⟩) hU2 fun g2 hT2 hs2 => ?_)))
  replace hT2 : IsTupOf2 g2 TO x1 x2 := hT2
  replace hs2 : Heap.SameBut TO p2 g2 := hs2
  refine wpAny_bind (wpAny_letGo (wpAny_pure (wpAny_pure ?_)))
  refine wpAny_bind (wpAny_seqItems (s := ⟨g2, g, d, tk2, os⟩) hT2 rfl (wpAny_bind (wpAny_newTuple ?_)))
  have hsz : g2.objs.size = hp.objs.size := by rw [hs2.1, hp2.1, hs1.1, hp1.1, hs0.1]
  have hzz : ZipB g2 z TI TO .ellipsis b := (hs2.extBut _ _ S.TOz.symm (hp2.extBut _ _ S.zi2 (hs1.extBut _ _ S.TOz.symm (hp1.extBut _ _ S.zi1 hz0))))
  have hkk : ∀ c o, c ≠ z → c ≠ TO → c ≠ i1 → c ≠ i2 → hp.get? c = some o → g2.get? c = some o := fun c o cz cT c1 c2 x =>
    hs2.extBut _ _ cT (hp2.extBut _ _ c2 (hs1.extBut _ _ cT (hp1.extBut _ _ c1 (hs0.extBut _ _ cz x))))
  have hj1 : St1 (i + 1) g2 := D1.over (D1.over (D1.over sn1 hs1 S.Tf1) hp2 S.sep2_1) hs2 S.Tf1
  have hj2 : St2 (i + 1) g2 := D2.over sn2 hs2 S.Tf2
  have hzlt : z < g2.objs.size := Heap.lt_size hzz
  show wpAny _ _ (Builtin.SmallTypes.ownedTupleHandOut (.ref z) (.ref g2.objs.size) >>= _) _ _ ⟨g2.push { cls := .type "tuple", data := .seq #[x1, x2] }, g, d, tk2, os⟩
  refine wpAny_bind ?_
  unfold Builtin.SmallTypes.ownedTupleHandOut
  have hz6 : ZipB (g2.push { cls := .type "tuple", data := .seq #[x1, x2] }) z TI TO .ellipsis b := Heap.get?_push_of_some _ hzz
  refine wpAny_bind (wpAny_setField_rec hz6 (by simp) fun h7 hz7 hs7 => ?_)
  replace hz7 : ZipB h7 z TI TO (rawInt g2.objs.size) b := hz7
  refine wpAny_setField_rec hz7 (by simp) fun h8 hz8 hs8 => ?_
  replace hz8 : ZipB h8 z TI TO (rawInt g2.objs.size) false := hz8
  replace hs7 : Heap.SameBut z (g2.push { cls := .type "tuple", data := .seq #[x1, x2] }) h7 := hs7
  replace hs8 : Heap.SameBut z h7 h8 := hs8
  have up : ∀ c o, c ≠ z → g2.get? c = some o → h8.get? c = some o := fun c o c1 x => hs8.extBut _ _ c1 (hs7.extBut _ _ c1 (Heap.get?_push_of_some _ x))
  have hT8 : IsTupOf2 h8 g2.objs.size x1 x2 := hs8.extBut _ _ (Nat.ne_of_gt hzlt) (hs7.extBut _ _ (Nat.ne_of_gt hzlt) (Heap.get?_push_size _ rfl))
  have hsz8 : h8.objs.size = g2.objs.size + 1 := by rw [hs8.1, hs7.1, Heap.size_push]
  rw [hsz] at hz8 hT8 hsz8
  refine wpAny_pure ⟨_, rfl, ?_⟩
  show Q (.ref g2.objs.size) ⟨h8, g, d, tk2, os⟩
  rw [hsz]
  exact hQ x1 x2 h8 tk2 hx1 hx2 hz8 (up _ _ S.TOz hT2) (D1.frame _ _ _ hj1 fun c hc o x => up c o (fun q => S.zf1 (q ▸ hc)) x) (D2.frame _ _ _ hj2 fun c hc o x => up c o (fun q => S.zf2 (q ▸ hc)) x) hT8 hsz8 fun c o cz cT c1 c2 x => up c o cz (hkk c o cz cT c1 c2 x)
theorem zipF_end {f0 : Value} {Q : Fin → Shared → Prop} (S : ZipSep2 z TI TO i1 i2 fp1 fp2) (D1 : Draws prog w A i1 fp1 n1 P1 St1) (D2 : Draws prog w A i2 fp2 n2 P2 St2)
    (hz : ZipB s.heap z TI TO f0 b) (hf : f0 = .none ∨ ∃ T : Addr, f0 = rawInt (T : Nat) ∧ s.heap.get? T = none) (hTI : IsTupOf2 s.heap TI (.ref i1) (.ref i2)) (hTO : IsTupOf2 s.heap TO a1 a2) (st1 : St1 i s.heap) (st2 : St2 i s.heap) (hle1 : i ≤ n1) (hle2 : i ≤ n2) (hend : i = n1 ∨ i = n2)
    (hE : ∀ h' tk x, (∀ c o, c ≠ z → c ≠ TO → c ≠ i1 → c ≠ i2 → s.heap.get? c = some o → h'.get? c = some o) → (∃ o, h'.get? x = some o ∧ o.cls = .type "StopIteration") → E (.ref x) { s with heap := h', toks := tk }) :
    wpAny (model prog w) A (Builtin.«zip.__next__» ⟨[.ref z], []⟩) Q E s := by
  obtain ⟨hp, g, d, tk0, os⟩ := s
  show wpAny _ _ (field (.ref z) 2 >>= _) _ _ _
  refine wpAny_bind (wpAny_field hz rfl (x := .bool false) rfl ?_)
  show wpAny _ _ (field (.ref z) 3 >>= _) _ _ _
  refine wpAny_bind (wpAny_field hz rfl (x := .ref TI) rfl (wpAny_bind (wpAny_seqItems hTI rfl ?_)))
  show wpAny _ _ (Builtin.SmallTypes.ownedTupleIsFree (.ref z) >>= _) _ _ _
  refine wpAny_bind (owned_free hz hf ?_)
  simp only [if_true]
  refine wpAny_bind (wpAny_rule (wpAny_bind (wpAny_field hz rfl (x := .ref TO) rfl ?_)))
  refine wpAny_bind (wpAny_setField_rec hz (by simp) fun g0 hz0 hs0 => ?_)
  replace hz0 : ZipB g0 z TI TO .ellipsis b := hz0
  replace hs0 : Heap.SameBut z hp g0 := hs0
  refine wpAny_bind ?_
  simp only [List.zipIdx_cons, List.zipIdx_nil, List.forIn_cons, List.forIn_nil]
  refine wpAny_bind (wpAny_bind (wpAny_onRaise ?_))
  show wpAny _ _ (Builtin.SmallTypes.nextOf (.ref i1) >>= _) _ _ ⟨g0, g, d, tk0, os⟩
  have stop : ∀ {q : Heap} {x : Addr} {tk : Nat}, (∀ c o, c ≠ z → c ≠ TO → c ≠ i1 → c ≠ i2 → hp.get? c = some o → q.get? c = some o) → ZipB q z TI TO .ellipsis b → (∃ o, q.get? x = some o ∧ o.cls = .type "StopIteration") →
      wpAny (model prog w) A (setField (.ref z) 0 .none) (fun _ s' => E (.ref x) s') E ⟨q, g, d, tk, os⟩ := fun {q x tk} hk hzq ⟨oe, hoe, hce⟩ => by
    have hez : x ≠ z := fun y => by
      subst y
      rw [hzq] at hoe
      cases hoe
      simp at hce
    refine wpAny_setField_rec (s := ⟨q, g, d, tk, os⟩) hzq (by simp) fun q' _ hq' => ?_
    replace hq' : Heap.SameBut z q q' := hq'
    exact hE q' tk x (fun c o cz cT c1 c2 y => hq'.extBut _ _ cz (hk c o cz cT c1 c2 y)) ⟨oe, hq'.extBut _ _ hez hoe, hce⟩
  by_cases hlt1 : i < n1
  · refine wpAny_bind (D1.item i _ _ _ hlt1 (D1.over st1 hs0 S.zf1) fun x1 p1 tk1 hx1 sn1 hp1 => wpAny_pure ?_)
    replace hp1 : Heap.SameBut i1 g0 p1 := hp1
    have hU1 : IsTupOf2 p1 TO a1 a2 := hp1.extBut _ _ S.Ti1 (hs0.extBut _ _ S.TOz hTO)
    refine wpAny_bind (wpAny_seqItems (s := ⟨p1, g, d, tk1, os⟩) hU1 rfl (wpAny_bind (updateSeq_IsTupOf2 (s := ⟨p1, g, d, tk1, os⟩) hU1 fun g1 hT1 hs1 => ?_)))
    replace hs1 : Heap.SameBut TO p1 g1 := hs1
    refine wpAny_bind (wpAny_letGo (wpAny_pure ?_))
    have hi2 : i = n2 := by omega
    refine wpAny_bind (wpAny_bind (wpAny_onRaise ?_))
    show wpAny _ _ (Builtin.SmallTypes.nextOf (.ref i2) >>= _) _ _ ⟨g1, g, d, tk1, os⟩
    refine wpAny_bind (D2.done ⟨g1, g, d, tk1, os⟩ _ _ (by rw [← hi2]; exact D2.over (D2.over (D2.over st2 hs0 S.zf2) hp1 S.sep1_2) hs1 S.Tf2) fun q x hq hx => ?_)
    replace hq : Heap.ExtBut i2 g1 q := hq
    exact stop (fun c o cz cT c1 c2 y => hq _ _ c2 (hs1.extBut _ _ cT (hp1.extBut _ _ c1 (hs0.extBut _ _ cz y)))) (hq _ _ S.zi2 (hs1.extBut _ _ S.TOz.symm (hp1.extBut _ _ S.zi1 hz0))) hx
  · have hi1 : i = n1 := by omega
    refine wpAny_bind (D1.done ⟨g0, g, d, tk0, os⟩ _ _ (by rw [← hi1]; exact D1.over st1 hs0 S.zf1) fun q x hq hx => ?_)
    replace hq : Heap.ExtBut i1 g0 q := hq
    exact stop (fun c o cz cT c1 c2 y => hq _ _ c1 (hs0.extBut _ _ cz y)) (hq _ _ S.zi1 hz0) hx
/-- the state of a zip that is drawn from again and again -/
def ZS (z TI TO i1 i2 : Addr) (h : Heap) : Prop := IsTupOf2 h TI (.ref i1) (.ref i2) ∧ (∃ a1 a2, IsTupOf2 h TO a1 a2) ∧ ∃ (f0 : Value) (b : Bool), ZipB h z TI TO f0 b ∧ (f0 = .none ∨ ∃ T : Addr, f0 = rawInt (T : Nat))
theorem ZS.keep {h h' : Heap} (kz : ∀ o, h.get? z = some o → h'.get? z = some o) (ki : ∀ o, h.get? TI = some o → h'.get? TI = some o) (ko : ∀ o, h.get? TO = some o → h'.get? TO = some o) (Z : ZS z TI TO i1 i2 h) : ZS z TI TO i1 i2 h' := by
  obtain ⟨h1, ⟨a1, a2, h2⟩, f0, b, h3, h4⟩ := Z
  exact ⟨ki _ h1, ⟨a1, a2, ko _ h2⟩, f0, b, kz _ h3, h4⟩
theorem zip_nextOf_item {Q : Value → Shared → Prop} (S : ZipSep2 z TI TO i1 i2 fp1 fp2) (D1 : Draws prog w A.in1 i1 fp1 n1 P1 St1) (D2 : Draws prog w A.in1 i2 fp2 n2 P2 St2)
    (Z : ZS z TI TO i1 i2 s.heap) (st1 : St1 i s.heap) (st2 : St2 i s.heap) (hlt1 : i < n1) (hlt2 : i < n2)
    (hQ : ∀ x1 x2 h' tk, P1 i x1 → P2 i x2 → ZS z TI TO i1 i2 h' → St1 (i + 1) h' → St2 (i + 1) h' → IsTupOf2 h' s.heap.objs.size x1 x2 → h'.objs.size = s.heap.objs.size + 1 →
      (∀ c o, c ≠ z → c ≠ TO → c ≠ i1 → c ≠ i2 → s.heap.get? c = some o → h'.get? c = some o) → Q (.ref s.heap.objs.size) { s with heap := h', toks := tk }) :
    wpAny (model prog w) A (Builtin.SmallTypes.nextOf (.ref z)) Q E s := by
  obtain ⟨hTI, ⟨a1, a2, hTO⟩, f0, b, hz, hf⟩ := Z
  have hT : s.TypeIs (.ref z) "zip" := ⟨_, hz, rfl⟩
  unfold Builtin.SmallTypes.nextOf
  refine wpAny_bind (wpAny_callSpecial?_slot (name := Str.ofString "__next__") hT F.slot_zip_next (wpAny_call_entry F.slot_zip_next hT F.entry_zip_next ?_ (F.args_zip_next_1 _)))
  have free : (f0 = .none ∨ ∃ T : Addr, f0 = rawInt (T : Nat) ∧ s.heap.get? T = none) ∨ ∃ (T : Addr) (o : Obj), f0 = rawInt (T : Nat) ∧ s.heap.get? T = some o := by
    rcases hf with e | ⟨T, e⟩
    · exact .inl (.inl e)
    · cases q : s.heap.get? T with
      | none => exact .inl (.inr ⟨T, e, q⟩)
      | some o => exact .inr ⟨T, o, e, q⟩
  rcases free with free | ⟨T, o, e, q⟩
  · refine zipF_item S D1 D2 hz free hTI hTO st1 st2 hlt1 hlt2 fun x1 x2 h' tk p1 p2 hz' hTO' s1 s2 hn hsz hk => wpAny_pure ?_
    exact hQ x1 x2 h' tk p1 p2 ⟨hk _ _ S.TIz S.TITO S.TIi1 S.TIi2 hTI, ⟨_, _, hTO'⟩, _, _, hz', .inr ⟨_, rfl⟩⟩ s1 s2 hn hsz hk
  · subst e
    refine zipK_item S D1 D2 hz hTI q st1 st2 hlt1 hlt2 fun x1 x2 h' tk p1 p2 hz' s1 s2 hn hsz hk => wpAny_pure ?_
    exact hQ x1 x2 h' tk p1 p2 ⟨hk _ _ S.TIz S.TIi1 S.TIi2 hTI, ⟨_, _, hk _ _ S.TOz S.Ti1 S.Ti2 hTO⟩, _, _, hz', .inr ⟨_, rfl⟩⟩ s1 s2 hn hsz fun c o c1 _ c3 c4 y => hk c o c1 c3 c4 y
theorem zip_nextOf_end {Q : Value → Shared → Prop} (S : ZipSep2 z TI TO i1 i2 fp1 fp2) (D1 : Draws prog w A.in1 i1 fp1 n1 P1 St1) (D2 : Draws prog w A.in1 i2 fp2 n2 P2 St2)
    (Z : ZS z TI TO i1 i2 s.heap) (st1 : St1 i s.heap) (st2 : St2 i s.heap) (hle1 : i ≤ n1) (hle2 : i ≤ n2) (hend : i = n1 ∨ i = n2)
    (hE : ∀ h' tk x, (∀ c o, c ≠ z → c ≠ TO → c ≠ i1 → c ≠ i2 → s.heap.get? c = some o → h'.get? c = some o) → (∃ o, h'.get? x = some o ∧ o.cls = .type "StopIteration") → E (.ref x) { s with heap := h', toks := tk }) :
    wpAny (model prog w) A (Builtin.SmallTypes.nextOf (.ref z)) Q E s := by
  obtain ⟨hTI, ⟨a1, a2, hTO⟩, f0, b, hz, hf⟩ := Z
  have hT : s.TypeIs (.ref z) "zip" := ⟨_, hz, rfl⟩
  unfold Builtin.SmallTypes.nextOf
  refine wpAny_bind (wpAny_callSpecial?_slot (name := Str.ofString "__next__") hT F.slot_zip_next (wpAny_call_entry F.slot_zip_next hT F.entry_zip_next ?_ (F.args_zip_next_1 _)))
  rcases hf with e | ⟨T, e⟩
  · exact zipF_end S D1 D2 hz (.inl e) hTI hTO st1 st2 hle1 hle2 hend hE
  · cases q : s.heap.get? T with
    | none => exact zipF_end S D1 D2 hz (.inr ⟨T, e, q⟩) hTI hTO st1 st2 hle1 hle2 hend hE
    | some o =>
      subst e
      exact zipK_end S D1 D2 hz hTI q st1 st2 hle1 hle2 hend fun h' tk x hk hx => hE h' tk x (fun c o c1 _ c3 c4 y => hk c o c1 c3 c4 y) hx
end
end Dn

set_option Elab.async false
set_option linter.all false
set_option maxRecDepth 100000
set_option maxHeartbeats 4000000
namespace Dn
open PySem PySem.Spec PyProof.Rows L2
open AutoSeq1 (wpAny_loadPart')
section
variable {prog : Program} {w : World} {A : Around} {E : Value → Shared → Prop} {s : Shared} {it e : Addr} {i : Nat} {old : Value}
/-- enumerate over an iterator whose next step is told by hn -/
theorem enum_item {R : Value → Heap → Nat → Prop} {Q : Value → Shared → Prop} (he : IsEnum s.heap e it i old)
    (hn : ∀ (Q : Value → Shared → Prop), (∀ x h' tk, R x h' tk → IsEnum h' e it i old → Q x { s with heap := h', toks := tk }) → wpAny (model prog w) A (Builtin.SmallTypes.nextOf (.ref it)) Q E s)
    (hQ : ∀ x h1 h' tk, R x h1 tk → IsEnumOut h' e it ((i : Int) + 1) x h1.objs.size → h'.get? h1.objs.size = some { cls := .type "tuple", data := .seq #[.int i tk, x] } → h'.objs.size = h1.objs.size + 1 →
      (∀ b o, b ≠ e → h1.get? b = some o → h'.get? b = some o) → Q (.ref h1.objs.size) { s with heap := h', toks := tk + 1 }) :
    wpAny (model prog w) A (Builtin.«enumerate.__next__» ⟨[.ref e], []⟩) (fun fin s' => ∃ v, fin = .done (.ret v) ∧ Q v s') E s := by
  obtain ⟨hp, g, d, tk₀, os⟩ := s
  show wpAny _ _ (field (.ref e) 2 >>= _) _ _ _
  refine wpAny_bind (wpAny_field he rfl (x := .ref it) rfl ?_)
  refine wpAny_bind (hn _ fun x h₁ tk hR he₁ => ?_)
  show wpAny _ _ (field (.ref e) 3 >>= _) _ _ ⟨h₁, g, d, tk, os⟩
  refine wpAny_bind (wpAny_field he₁ rfl (x := rawInt i) rfl ?_)
  show wpAny _ _ (field (.ref e) 4 >>= _) _ _ ⟨h₁, g, d, tk, os⟩
  refine wpAny_bind (wpAny_field he₁ rfl (x := .none) rfl ?_)
  show wpAny _ _ (mkInt i >>= _) _ _ ⟨h₁, g, d, tk, os⟩
  refine wpAny_bind (wpAny_mkInt ?_)
  show wpAny _ _ (setField (.ref e) 3 (rawInt ((i : Int) + 1)) >>= _) _ _ ⟨h₁, g, d, tk + 1, os⟩
  refine wpAny_bind (wpAny_setField_rec he₁ (by simp) fun h₂ he₂ hs₂ => ?_)
  replace hs₂ : Heap.SameBut e h₁ h₂ := hs₂
  replace he₂ : IsEnum h₂ e it ((i : Int) + 1) old := he₂
  show wpAny _ _ (setField (.ref e) 4 .none >>= _) _ _ ⟨h₂, g, d, tk + 1, os⟩
  refine wpAny_bind (wpAny_setField_rec he₂ (by simp) fun h₃ he₃ hs₃ => ?_)
  replace hs₃ : Heap.SameBut e h₂ h₃ := hs₃
  replace he₃ : IsEnum h₃ e it ((i : Int) + 1) old := he₃
  show wpAny _ _ (newTuple [.int i tk, x] >>= _) _ _ ⟨h₃, g, d, tk + 1, os⟩
  refine wpAny_bind (wpAny_newTuple ?_)
  have he₄ : IsEnum (h₃.push { cls := .type "tuple", data := .seq #[.int i tk, x] }) e it ((i : Int) + 1) old := Heap.get?_push_of_some _ he₃
  generalize hh₄ : h₃.push { cls := .type "tuple", data := .seq #[.int i tk, x] } = h₄ at he₄
  have hsz : h₃.objs.size = h₁.objs.size := by rw [hs₃.1, hs₂.1]
  have hel : e < h₁.objs.size := Heap.lt_size he₁
  have ht₄ : h₄.get? h₁.objs.size = some { cls := .type "tuple", data := .seq #[.int i tk, x] } := by rw [← hh₄, ← hsz]; exact Heap.get?_push_size _ rfl
  have hz₄ : h₄.objs.size = h₁.objs.size + 1 := by rw [← hh₄, Heap.size_push, hsz]
  have hk₄ : ∀ b o, b ≠ e → h₁.get? b = some o → h₄.get? b = some o := fun b o hbe hb => by
    rw [← hh₄]
    exact Heap.get?_push_of_some _ (hs₃.extBut b o hbe (hs₂.extBut b o hbe hb))
  show wpAny _ _ (Builtin.SmallTypes.ownedTupleIsFree (.ref e) >>= _) _ _ ⟨h₄, g, d, tk + 1, os⟩
  rw [hsz]
  clear hh₄ he₃ hs₃ he₂ hs₂ hsz h₃ h₂
  refine wpAny_bind ?_
  · unfold Builtin.SmallTypes.ownedTupleIsFree
    refine wpAny_bind (wpAny_field he₄ rfl (x := .none) rfl (wpAny_pure ?_))
    simp only [if_true]
    refine wpAny_bind (wpAny_rule ?_)
    refine wpAny_bind (wpAny_field he₄ rfl (x := old) rfl ?_)
    refine wpAny_bind (wpAny_setField_rec he₄ (by simp) fun h₅ he₅ hs₅ => ?_)
    replace hs₅ : Heap.SameBut e h₄ h₅ := hs₅
    replace he₅ : IsEnum h₅ e it ((i : Int) + 1) x := he₅
    show wpAny _ _ (Builtin.SmallTypes.ownedTupleHandOut (.ref e) (.ref h₁.objs.size) >>= _) _ _ ⟨h₅, g, d, tk + 1, os⟩
    refine wpAny_bind ?_
    · unfold Builtin.SmallTypes.ownedTupleHandOut
      refine wpAny_bind (wpAny_setField_rec he₅ (by simp) fun h₆ he₆ hs₆ => ?_)
      replace hs₆ : Heap.SameBut e h₅ h₆ := hs₆
      replace he₆ : IsEnumOut h₆ e it ((i : Int) + 1) x h₁.objs.size := he₆
      refine wpAny_setField_rec he₆ (by simp) fun h₇ he₇ hs₇ => ?_
      replace hs₇ : Heap.SameBut e h₆ h₇ := hs₇
      replace he₇ : IsEnumOut h₇ e it ((i : Int) + 1) x h₁.objs.size := he₇
      refine wpAny_bind (wpAny_letGo (wpAny_pure ⟨_, rfl, hQ x h₁ h₇ tk hR he₇ ?_ ?_ ?_⟩))
      · exact hs₇.extBut _ _ (Nat.ne_of_gt hel) (hs₆.extBut _ _ (Nat.ne_of_gt hel) (hs₅.extBut _ _ (Nat.ne_of_gt hel) ht₄))
      · rw [hs₇.1, hs₆.1, hs₅.1, hz₄]
      · exact fun b o hbe hb => hs₇.extBut b o hbe (hs₆.extBut b o hbe (hs₅.extBut b o hbe (hk₄ b o hbe hb)))
theorem pyNext_enum_item {R : Value → Heap → Nat → Prop} {Q : Option Value → Shared → Prop} (he : IsEnum s.heap e it i old)
    (hn : ∀ (Q : Value → Shared → Prop) (E : Value → Shared → Prop), (∀ x h' tk, R x h' tk → IsEnum h' e it i old → Q x { s with heap := h', toks := tk }) → wpAny (model prog w) A.in1 (Builtin.SmallTypes.nextOf (.ref it)) Q E s)
    (hQ : ∀ x h1 h' tk, R x h1 tk → IsEnumOut h' e it ((i : Int) + 1) x h1.objs.size → h'.get? h1.objs.size = some { cls := .type "tuple", data := .seq #[.int i tk, x] } → h'.objs.size = h1.objs.size + 1 →
      (∀ b o, b ≠ e → h1.get? b = some o → h'.get? b = some o) → Q (some (.ref h1.objs.size)) { s with heap := h', toks := tk + 1 }) :
    wpAny (model prog w) A (pyNext (.ref e)) Q E s := by
  have hT : s.TypeIs (.ref e) "enumerate" := ⟨_, he, rfl⟩
  unfold pyNext
  exact wpAny_bind (wpAny_attempt (wpAny_callSpecial?_slot (name := Str.ofString "__next__") hT F.slot_enumerate_next
    (wpAny_call_entry F.slot_enumerate_next hT F.entry_enumerate_next
      (enum_item he (hn · _) fun x h1 h' tk a b c d k => wpAny_pure (hQ x h1 h' tk a b c d k)) (F.args_enumerate_next_1 _))))
theorem pyNext_enum_end {R : Heap → Nat → Prop} {Q : Option Value → Shared → Prop} (he : IsEnum s.heap e it i old)
    (hn : ∀ (Q : Value → Shared → Prop) (E : Value → Shared → Prop), (∀ h' tk x, R h' tk → (∃ o, h'.get? x = some o ∧ o.cls = .type "StopIteration") → E (.ref x) { s with heap := h', toks := tk }) → wpAny (model prog w) A.in1 (Builtin.SmallTypes.nextOf (.ref it)) Q E s)
    (hQ : ∀ h' tk, R h' tk → Q none { s with heap := h', toks := tk }) : wpAny (model prog w) A (pyNext (.ref e)) Q E s := by
  have hT : s.TypeIs (.ref e) "enumerate" := ⟨_, he, rfl⟩
  unfold pyNext
  refine wpAny_bind (wpAny_attempt (wpAny_callSpecial?_slot (name := Str.ofString "__next__") hT F.slot_enumerate_next
    (wpAny_call_entry F.slot_enumerate_next hT F.entry_enumerate_next ?_ (F.args_enumerate_next_1 _))))
  show wpAny _ _ (field (.ref e) 2 >>= _) _ _ _
  refine wpAny_bind (wpAny_field he rfl (x := .ref it) rfl ?_)
  refine wpAny_bind (hn _ _ fun h' tk x hR hx' => ?_)
  obtain ⟨o, ho, hc⟩ := hx'
  refine wpAny_bind (wpAny_isInstance (T := "StopIteration") (b := true) ⟨o, ho, hc⟩ isSubtype_stop ?_)
  exact wpAny_pure (hQ _ _ hR)
/-! the call -/
theorem meets_enumZ (l : Addr) (vs : Array Value) (TI TO : Addr) (f0 : Value) :
    Meets (Builtin.«enumerate.__new__» ⟨[.type "enumerate", .ref l], []⟩) (fun _ R s => IsZip s.heap l TI TO f0 ∧
      R (.ok (.ret (.ref s.heap.objs.size))) { s with heap := s.heap.push { cls := .type "enumerate", data := .fields #[.none, .bool false, .ref l, rawInt 0, .none, .none] } }) :=
  .of_wp fun prog w A R s h => by
    obtain ⟨hp, g, d, tk, os⟩ := s
    obtain ⟨hl, h⟩ := h
    have hsub := sub_enumerate
    have hl : IsZip (Shared.heap ⟨hp, g, d, tk, os⟩) l TI TO f0 := hl
    have hl0 : hp.get? l = some { cls := .type "zip", dict := none, data := .fields #[f0, .bool false, .bool false, .ref TI, .ref TO], slots := #[] } := hl
    wp_walk using wpAny_loadPart' hl0
    refine wpAny_stack_any fun st => wpAny_pure ?_
    split
    · rename_i c _ _ _ _ _
      cases (c == Value.type "enumerate")
      · wp_walk using wpAny_loadPart' hl0, wpAny_pyIter_zip hl
        exact ⟨_, rfl, h⟩
      · wp_walk using wpAny_loadPart' hl0, wpAny_pyIter_zip hl
        exact ⟨_, rfl, h⟩
    · wp_walk using wpAny_loadPart' hl0, wpAny_pyIter_zip hl
      exact ⟨_, rfl, h⟩
theorem call_enumZ {l TI TO : Addr} {f0 : Value} {Q : Value → Shared → Prop} (hL : IsZip s.heap l TI TO f0)
    (h : ∀ h', IsEnum h' s.heap.objs.size l 0 .none → h'.objs.size = s.heap.objs.size + 1 → (∀ b o, s.heap.get? b = some o → h'.get? b = some o) → Q (.ref s.heap.objs.size) { s with heap := h' }) :
    wpAny (model prog w) A (call (.type "enumerate") [.ref l]) Q E s := by
  refine callType_new F.called_enumerate (by decide) (F.typeCall_enumerate_1 _) (F.newCall_enumerate_1 _) (fun obj => F.args_object_init_2 obj _) F.entry_enumerate_new
    (meets_enumZ l #[] TI TO f0) ⟨hL, ?_⟩
  have he : IsEnum (s.heap.push { cls := .type "enumerate", data := .fields #[.none, .bool false, .ref l, rawInt 0, .none, .none] }) s.heap.objs.size l 0 .none := Heap.get?_push_size _ rfl
  exact ⟨⟨_, he, rfl⟩, h _ he (Heap.size_push ..) fun b o x => Heap.get?_push_of_some _ x⟩
end
/-- the tuples at a and b: pairs of a number and a new pair -/
def IteZ (K : PySem.W.Frag) (a b : Addr) : It :=
  ⟨fun i H => ∃ (xs ys : List V) (x y : V), SqT K H a xs ∧ SqT K H b ys ∧ xs[i]? = some x ∧ ys[i]? = some y,
    fun i H v H' => ∃ T1 T2 x y, v = .ref T2 ∧ H T1 = none ∧ H T2 = none ∧ T1 ≠ T2 ∧ H' = upd (upd H T1 (.tup [x, y])) T2 (.tup [.int (i : Nat), .ref T1]) ∧ (∀ xs, SqT K H a xs → xs[i]? = some x) ∧ ∀ ys, SqT K H b ys → ys[i]? = some y,
    fun i H => ∃ xs ys : List V, SqT K H a xs ∧ SqT K H b ys ∧ (xs.length ≤ i ∨ ys.length ≤ i)⟩
structure FarE (e z TI TO i1 i2 a b : Addr) : Prop where
  s : ZipSep2 z TI TO i1 i2 [i1, a] [i2, b]
  ez : e ≠ z
  eI : e ≠ TI
  eO : e ≠ TO
  e1 : e ≠ i1
  e2 : e ≠ i2
  ai : a ≠ i1
  bi : b ≠ i2
theorem turn_enumZ {P : Program} {w : World} {K : PySem.W.Frag} {elts : List Expr} {kk : Nat} {tpos : Pos} {a b e z TI TO i1 i2 : Addr} (D : FarE e z TI TO i1 i2 a b) :
    Turn P w K (.Tuple elts kk tpos) (IteZ K a b) [e, z, TI, TO, i1, i2] e (fun i h => (∃ old, IsEnum h e z ((i : Nat) : Int) old) ∧ ZS z TI TO i1 i2 h ∧ h.IsTupleIter i1 a i ∧ h.IsTupleIter i2 b i) where
  mem := by simp
  obj := fun i h st c hc => by
    obtain ⟨⟨old, he⟩, ⟨hTI, ⟨a1, a2, hTO⟩, f0, bb, hz, _⟩, ⟨o1, q1, _, d1⟩, ⟨o2, q2, _, d2⟩⟩ := st
    have e' : c = e ∨ c = z ∨ c = TI ∨ c = TO ∨ c = i1 ∨ c = i2 := by simpa using hc
    rcases e' with q | q | q | q | q | q
    · rw [q]; exact ⟨_, he, fun v y => nomatch y⟩
    · rw [q]; exact ⟨_, hz, fun v y => nomatch y⟩
    · rw [q]; exact ⟨_, hTI, fun v y => nomatch y⟩
    · rw [q]; exact ⟨_, hTO, fun v y => nomatch y⟩
    · rw [q]; exact ⟨o1, q1, fun v y => by rw [d1] at y; cases y⟩
    · rw [q]; exact ⟨o2, q2, fun v y => by rw [d2] at y; cases y⟩
  keep := fun i h h' st k => by
    obtain ⟨⟨old, he⟩, Z, h1, h2⟩ := st
    exact ⟨⟨old, k e (by simp) _ he⟩, Z.keep (fun o => k z (by simp) o) (fun o => k TI (by simp) o) (fun o => k TO (by simp) o), h1.at fun o q => k i1 (by simp) o q, h2.at fun o q => k i2 (by simp) o q⟩
  item := by
    intro X hP hw hK hc i pins s σ H E I hf st hg
    subst hP hw hK
    obtain ⟨⟨old, he⟩, Z, h1, h2⟩ := st
    obtain ⟨xs, ys, x, y, hqx, hqy, hx, hy⟩ := hg
    obtain ⟨its, rv, p, _⟩ := I.tuple hqx
    obtain ⟨its2, rv2, p2, _⟩ := I.tuple hqy
    obtain ⟨u, hu, ru⟩ := rv.get hx
    obtain ⟨u2, hu2, ru2⟩ := rv2.get hy
    have hel : e < s.heap.objs.size := Heap.lt_size he
    have hfp : ∀ c ∈ [e, z, TI, TO, i1, i2], c < s.heap.objs.size := fun c hcm => by
      obtain ⟨hTI, ⟨a1, a2, hTO⟩, f0, bb, hz, _⟩ := Z
      have e' : c = e ∨ c = z ∨ c = TI ∨ c = TO ∨ c = i1 ∨ c = i2 := by simpa using hcm
      rcases e' with q | q | q | q | q | q
      · rw [q]; exact hel
      · rw [q]; exact Heap.lt_size hz
      · rw [q]; exact Heap.lt_size hTI
      · rw [q]; exact Heap.lt_size hTO
      · rw [q]; obtain ⟨_, e1, _⟩ := h1; exact Heap.lt_size e1
      · rw [q]; obtain ⟨_, e2, _⟩ := h2; exact Heap.lt_size e2
    have hlt1 : i < its.toArray.size := by simpa using (List.getElem?_eq_some_iff.mp hu).1
    have hlt2 : i < its2.toArray.size := by simpa using (List.getElem?_eq_some_iff.mp hu2).1
    refine pyNext_enum_item (R := fun v h1 tk => v = .ref s.heap.objs.size ∧ ZS z TI TO i1 i2 h1 ∧ h1.IsTupleIter i1 a (i + 1) ∧ h1.IsTupleIter i2 b (i + 1) ∧ IsTupOf2 h1 s.heap.objs.size u u2 ∧ h1.objs.size = s.heap.objs.size + 1 ∧
        ∀ c o, c ≠ z → c ≠ TO → c ≠ i1 → c ≠ i2 → s.heap.get? c = some o → h1.get? c = some o) he (fun Q E hQ => ?_) fun v h1' h' tk hR ho hT2 hsz2 hk2 => ?_
    · refine zip_nextOf_item D.s (Draws.tuple (A := X.A.in1.in1) (I.ok.hd hc) i1 a D.ai its.toArray) (Draws.tuple (A := X.A.in1.in1) (I.ok.hd hc) i2 b D.bi its2.toArray) Z ⟨h1, p⟩ ⟨h2, p2⟩ hlt1 hlt2 fun x1 x2 h' tk r1 r2 Z' s1 s2 hn hsz hk => ?_
      rw [List.getElem?_toArray, hu] at r1
      rw [List.getElem?_toArray, hu2] at r2
      cases r1
      cases r2
      exact hQ _ h' tk ⟨rfl, Z', s1.1, s2.1, hn, hsz, hk⟩ (hk _ _ D.ez D.eO D.e1 D.e2 he)
    · obtain ⟨ev, Z', s1, s2, hn, hsz, hk⟩ := hR
      subst ev
      -- the first new pair
      have new1 : ObjOk X.prog X.w (upd H s.heap.objs.size (.tup [x, y])) h1' s.heap.objs.size (.tup [x, y]) := ⟨by show 2 ≤ sizeLine; decide, [u, u2], .cons ru (.cons ru2 .nil), ⟨_, hn, rfl, _, rfl⟩⟩
      have I1 : Inv X pins σ (upd H s.heap.objs.size (.tup [x, y])) { s with heap := h1', toks := tk } :=
        I.turnedNew (ch := [e, z, TI, TO, i1, i2]) (fun c o hb q => hk c o (fun q' => hb (by simp [q'])) (fun q' => hb (by simp [q'])) (fun q' => hb (by simp [q'])) (fun q' => hb (by simp [q'])) q) hf (Nat.le_refl _) new1
      refine ⟨_, rfl, wpAny_letOwnedTupleGo_enum (s := { s with heap := h', toks := tk + 1 }) ho fun h'' he' sb => ?_⟩
      have hf1 : ∀ c ∈ [e], FpOk X pins (upd H s.heap.objs.size (.tup [x, y])) c := fun c hcm => by
        have e' : c = e := by simpa using hcm
        subst e'
        have q := hf c (by simp)
        refine ⟨?_, q.2⟩
        rw [upd_ne (Nat.ne_of_lt hel)]
        exact q.1
      have hel1 : e < h1'.objs.size := by rw [hsz]; exact Nat.lt_succ_of_lt hel
      have hTn : h''.get? h1'.objs.size = some { cls := .type "tuple", data := .seq #[.int i tk, .ref s.heap.objs.size] } := (sb.2 _ (Nat.ne_of_gt hel1)).trans hT2
      have kk : ∀ c o, c ≠ e → h1'.get? c = some o → h''.get? c = some o := fun c o hb q => (sb.2 c hb).trans (hk2 c o hb q)
      have new2 : ObjOk X.prog X.w (upd (upd H s.heap.objs.size (.tup [x, y])) h1'.objs.size (.tup [.int (i : Nat), .ref s.heap.objs.size])) h'' h1'.objs.size (.tup [.int (i : Nat), .ref s.heap.objs.size]) :=
        ⟨by show 2 ≤ sizeLine; decide, [.int i tk, .ref s.heap.objs.size], .cons ⟨_, rfl⟩ (.cons rfl .nil), ⟨_, hTn, rfl, _, rfl⟩⟩
      have I2 : Inv X pins σ (upd (upd H s.heap.objs.size (.tup [x, y])) h1'.objs.size (.tup [.int (i : Nat), .ref s.heap.objs.size])) { s with heap := h'', toks := tk + 1 } :=
        I1.turnedNew (s := { s with heap := h1', toks := tk }) (ch := [e]) (fun c o hb q => kk c o (fun q' => hb (by simp [q'])) q) hf1 (Nat.le_refl _) new2
      have hT1 : H s.heap.objs.size = none := I.hok.fresh (Nat.le_refl _)
      have hT2n : H h1'.objs.size = none := I.hok.fresh (by rw [hsz]; exact Nat.le_succ _)
      refine ⟨.ref h1'.objs.size, _, I2, rfl, ⟨s.heap.objs.size, h1'.objs.size, x, y, rfl, hT1, hT2n, by rw [hsz]; exact Nat.ne_of_lt (Nat.lt_succ_self _), rfl, fun l hl => by rw [I.tuple_inj hl hqx]; exact hx, fun l hl => by rw [I.tuple_inj hl hqy]; exact hy⟩, ⟨⟨.ref s.heap.objs.size, ?_⟩, ?_, ?_, ?_⟩, fun c hcm => ?_⟩
      · have e1 : ((i + 1 : Nat) : Int) = (i : Int) + 1 := by omega
        rw [e1]
        exact he'
      · exact Z'.keep (fun o => kk z o D.ez.symm) (fun o => kk TI o D.eI.symm) (fun o => kk TO o D.eO.symm)
      · exact s1.at fun o q => kk i1 o D.e1.symm q
      · exact s2.at fun o q => kk i2 o D.e2.symm q
      · have hl := hfp c hcm
        rw [upd_ne (by rw [hsz]; exact Nat.ne_of_lt (Nat.lt_succ_of_lt hl)), upd_ne (Nat.ne_of_lt hl)]
        exact (hf c hcm).1
  done := by
    intro X hP hw hK hc i pins s σ H E I hf st hg
    subst hP hw hK
    obtain ⟨⟨old, he⟩, Z, h1, h2⟩ := st
    obtain ⟨xs, ys, hqx, hqy, hend⟩ := hg
    obtain ⟨its, rv, p, _⟩ := I.tuple hqx
    obtain ⟨its2, rv2, p2, _⟩ := I.tuple hqy
    have l1 := rv.length
    have l2 := rv2.length
    refine pyNext_enum_end (R := fun h' tk => ∀ c o, c ≠ z → c ≠ TO → c ≠ i1 → c ≠ i2 → s.heap.get? c = some o → h'.get? c = some o) he (fun Q E hE => ?_) fun h' tk hk => ⟨rfl, I.turnedL (t' := tk) (ch := [e, z, TI, TO, i1, i2]) (fun c o hb q =>
      hk c o (fun q' => hb (by simp [q'])) (fun q' => hb (by simp [q'])) (fun q' => hb (by simp [q'])) (fun q' => hb (by simp [q'])) q) hf⟩
    have none1 : ¬ i < its.toArray.size → its.toArray[i]? = none := fun n => Array.getElem?_eq_none_iff.mpr (by omega)
    have none2 : ¬ i < its2.toArray.size → its2.toArray[i]? = none := fun n => Array.getElem?_eq_none_iff.mpr (by omega)
    by_cases c1 : i < its.toArray.size
    · have c2 : ¬ i < its2.toArray.size := by
        have c1' : i < its.length := by simpa using c1
        have : ys.length ≤ i := by omega
        simp
        omega
      exact zip_nextOf_end D.s (Draws.tuple (A := X.A.in1.in1) (I.ok.hd hc) i1 a D.ai its.toArray) (Draws.ended (A := X.A.in1.in1) (I.ok.hd hc) i2 b its2.toArray i (none2 c2)) Z ⟨h1, p⟩ ⟨rfl, h2, p2⟩ (Nat.le_of_lt c1) (Nat.le_refl _) (.inr rfl) fun h' tk x hk hx => hE h' tk x hk hx
    · by_cases c2 : i < its2.toArray.size
      · exact zip_nextOf_end D.s (Draws.ended (A := X.A.in1.in1) (I.ok.hd hc) i1 a its.toArray i (none1 c1)) (Draws.tuple (A := X.A.in1.in1) (I.ok.hd hc) i2 b D.bi its2.toArray) Z ⟨rfl, h1, p⟩ ⟨h2, p2⟩ (Nat.le_refl _) (Nat.le_of_lt c2) (.inl rfl) fun h' tk x hk hx => hE h' tk x hk hx
      · exact zip_nextOf_end D.s (Draws.ended (A := X.A.in1.in1) (I.ok.hd hc) i1 a its.toArray i (none1 c1)) (Draws.ended (A := X.A.in1.in1) (I.ok.hd hc) i2 b its2.toArray i (none2 c2)) Z ⟨rfl, h1, p⟩ ⟨rfl, h2, p2⟩ (Nat.le_refl _) (Nat.le_refl _) (.inl rfl) fun h' tk x hk hx => hE h' tk x hk hx
  self := fun A i s Q E st h => let ⟨⟨_, he⟩, _⟩ := st; wpAny_pyIter_enum he h
def iEnumZ (K : PySem.W.Frag) (ta : TA) : TI := fun σ H R => ta σ H fun vs H1 => ∃ a b xs ys, vs = [.ref a, .ref b] ∧ SqT K H1 a xs ∧ SqT K H1 b ys ∧ R (IteZ K a b) H1
theorem pi_enumZ {X : Cx} {e e2 : Expr} {ta : TA} {p p2 pos pos2 tpos : Pos} {elts : List Expr} {kk : Nat} (hg : Gl X "enumerate") (hm : X.mg "enumerate" = none) (hg2 : Gl X "zip") (hm2 : X.mg "zip" = none) (ha : PA X [e, e2] ta)
    (hs : starEach [e, e2] X.env = (false, eval e X.env) :: starEach [e2] X.env := by rfl) (hpl : (backTo pos2 (starEach [e2] X.env)).any (·.1) = false := by rfl)
    (hs2 : starEach [.Call (.Name "zip" p2) [e, e2] [] pos2] X.env = [(false, eval (.Call (.Name "zip" p2) [e, e2] [] pos2) X.env)] := by rfl) :
    PI X (.Tuple elts kk tpos) (.Call (.Name "enumerate" p) [.Call (.Name "zip" p2) [e, e2] [] pos2] [] pos) (iEnumZ X.K ta) := by
  refine ⟨fun pins s σ H R I h => ?_⟩
  refine Call_ (ld_blt I hg hm boot_enumerate (PyProof.Rows.callWith_type1 ?_ hs2 rfl))
  rw [hs2]
  refine Calls.spliced_cons (Call_ (ld_blt I hg2 hm2 PyProof.Rows.boot_zip (PyProof.Rows.callWith_type1 (thn (ha.run pos2 pins s σ H _ I h) fun us s1 ⟨vs, H1, I1, r1, q1⟩ => ?_) hs hpl)))
  obtain ⟨a, b, xs, ys, ex, hqx, hqy, q⟩ := q1
  subst ex
  cases r1 with
  | cons r rr =>
    cases rr with
    | cons r' rr =>
      cases rr
      cases r
      cases r'
      obtain ⟨its, rv, p1, _⟩ := I1.tuple hqx
      obtain ⟨its2, rv2, p2', _⟩ := I1.tuple hqy
      obtain ⟨o1, ho1, _⟩ := id p1
      obtain ⟨o2, ho2, _⟩ := id p2'
      have la : a < s1.heap.objs.size := Heap.lt_size ho1
      have lb : b < s1.heap.objs.size := Heap.lt_size ho2
      refine zip_begins2 (begins_tuple a its.toArray) (begins_tuple b its2.toArray) p1 p2' fun h' hz hTI hTO h1 h2 hsz hk => ?_
      refine Calls.spliced_nil ?_
      refine call_enumZ (s := { s1 with heap := h' }) hz fun h'' he hsz2 hk2 => wpAny_pyIter_enum he ?_
      have hsz : h'.objs.size = s1.heap.objs.size + 5 := hsz
      have I2 : Inv X pins σ H1 { s1 with heap := h'' } := I1.kept (t' := s1.toks) fun c o x => hk2 c o (hk c o x)
      have e5 : (Shared.heap { s1 with heap := h' }).objs.size = s1.heap.objs.size + 5 := hsz
      have far : FarE (Shared.heap { s1 with heap := h' }).objs.size (s1.heap.objs.size + 4) (s1.heap.objs.size + 2) (s1.heap.objs.size + 3) s1.heap.objs.size (s1.heap.objs.size + 1) a b := by
        rw [e5]
        have na : ∀ k : Nat, a ≠ s1.heap.objs.size + k := fun k => Nat.ne_of_lt (Nat.lt_of_lt_of_le la (Nat.le_add_right _ _))
        have nb : ∀ k : Nat, b ≠ s1.heap.objs.size + k := fun k => Nat.ne_of_lt (Nat.lt_of_lt_of_le lb (Nat.le_add_right _ _))
        have add : ∀ j k : Nat, j ≠ k → s1.heap.objs.size + j ≠ s1.heap.objs.size + k := fun j k hn q => hn (Nat.add_left_cancel q)
        have add0 : ∀ k : Nat, k ≠ 0 → s1.heap.objs.size + k ≠ s1.heap.objs.size := fun k hn q => hn (Nat.add_left_cancel (show s1.heap.objs.size + k = s1.heap.objs.size + 0 from q))
        have mem : ∀ {x y c : Addr}, x ≠ y → x ≠ c → x ∉ [y, c] := fun {x y c} n1 n2 hm => by
          rcases List.mem_cons.mp hm with z | z
          · exact n1 z
          · exact n2 (List.mem_singleton.mp z)
        exact ⟨⟨add 2 4 (by decide), add 3 4 (by decide), add 2 3 (by decide), add0 2 (by decide), by simp, mem (add0 4 (by decide)) (na 4).symm, mem (add0 3 (by decide)) (na 3).symm, add 2 1 (by decide), by simp, mem (add 4 1 (by decide)) (nb 4).symm, mem (add 3 1 (by decide)) (nb 3).symm,
          mem (add0 1 (by decide)).symm (Nat.ne_of_gt lb), mem (add0 1 (by decide)) (na 1).symm⟩, add 5 4 (by decide), add 5 2 (by decide), add 5 3 (by decide), add0 5 (by decide), add 5 1 (by decide), Nat.ne_of_lt la, nb 1⟩
      refine ⟨(Shared.heap { s1 with heap := h' }).objs.size, [(Shared.heap { s1 with heap := h' }).objs.size, s1.heap.objs.size + 4, s1.heap.objs.size + 2, s1.heap.objs.size + 3, s1.heap.objs.size, s1.heap.objs.size + 1], _, _, H1, rfl, I2, turn_enumZ far,
        ⟨⟨.none, he⟩, ⟨hk2 _ _ hTI, ⟨_, _, hk2 _ _ hTO⟩, _, _, hk2 _ _ hz, .inl rfl⟩, ⟨_, hk2 _ _ h1, rfl, rfl⟩, ⟨_, hk2 _ _ h2, rfl, rfl⟩⟩, fun c hcm => ?_, q⟩
      have hle : s1.heap.objs.size ≤ c := by
        rw [e5] at hcm
        have e' : c = s1.heap.objs.size + 5 ∨ c = s1.heap.objs.size + 4 ∨ c = s1.heap.objs.size + 2 ∨ c = s1.heap.objs.size + 3 ∨ c = s1.heap.objs.size ∨ c = s1.heap.objs.size + 1 := by simpa using hcm
        rcases e' with y | y | y | y | y | y <;> rw [y] <;> first | exact Nat.le_add_right _ _ | exact Nat.le_refl _
      exact I1.fpOk hle (I1.hok.fresh hle)
section
variable {K : Fr} {M : Ad} {H : Hp}
theorem wk_enumZ {a b : Addr} {vs us : List V} {ds es : List D} (l : TupAt K M H a vs) (r : Reps K M H ds vs) (l2 : TupAt K M H b us) (r2 : Reps K M H es us) : Wk K M (IteZ K a b) H (enumD (zipD ds es)) where
  go := fun M' H' gr dom i d h => by
    obtain ⟨e, he, ed⟩ := enumD_get h
    obtain ⟨x, y, hx, hy, ee⟩ := zipD_get he
    obtain ⟨v, hv, rv⟩ := r.get hx
    obtain ⟨u, hu, ru⟩ := r2.get hy
    refine ⟨⟨vs, us, v, u, (l.grow gr).sq, (l2.grow gr).sq, hv, hu⟩, fun p H2 ⟨T1, T2, v', u', ep, hT1, hT2, hne, eH, hv', hu'⟩ => ?_⟩
    have e1 := hv' vs (l.grow gr).sq
    have e2 := hu' us (l2.grow gr).sq
    rw [hv] at e1
    rw [hu] at e2
    cases e1
    cases e2
    subst ep eH ed ee
    obtain ⟨s1, q1⟩ := rep_pair dom hT1 (rv.grow gr) (ru.grow gr)
    have dom2 : ∀ c, M' c → upd H' T1 (.tup [v, u]) c ≠ none := fun c m => upd_dom (dom c m)
    have hT2' : upd H' T1 (.tup [v, u]) T2 = none := by rw [upd_ne hne.symm]; exact hT2
    obtain ⟨s2, q2⟩ := rep_pair (K := K) (x := .int (i : Nat)) (d := .int (i : Nat)) dom2 hT2' rfl q1
    exact ⟨s1.trans s2, q2⟩
  stop := fun M' H' gr i hi => by
    rw [enumD_length, zipD_length] at hi
    refine ⟨vs, us, (l.grow gr).sq, (l2.grow gr).sq, ?_⟩
    rw [← r.length, ← r2.length]
    rcases Nat.le_total ds.length es.length with q | q
    · rw [Nat.min_eq_left q] at hi
      exact .inl hi
    · rw [Nat.min_eq_right q] at hi
      exact .inr hi
end
section
variable {X : Cx} {g : GX} {W : WX} {e e2 : Expr} {p p2 pos pos2 : Pos}
def iezD (as : DAx) : DIx := fun δ Q Xd => as δ (fun ds δ1 => on2 (fun d e => onTup (fun xs => onTup (fun ys => Q (enumD (zipD xs ys)) δ1) e) d) ds) Xd
theorem di_enumZ {as : DAx} {elts : List Expr} {kk : Nat} {tpos : Pos} (hg : Gl X "enumerate") (hm : X.mg "enumerate" = none) (hg2 : Gl X "zip") (hm2 : X.mg "zip" = none) (ha : DA X g W [e, e2] as)
    (hs : starEach [e, e2] X.env = (false, eval e X.env) :: starEach [e2] X.env := by rfl) (hpl : (backTo pos2 (starEach [e2] X.env)).any (·.1) = false := by rfl)
    (hs2 : starEach [.Call (.Name "zip" p2) [e, e2] [] pos2] X.env = [(false, eval (.Call (.Name "zip" p2) [e, e2] [] pos2) X.env)] := by rfl) :
    DI X g W (.Tuple elts kk tpos) (.Call (.Name "enumerate" p) [.Call (.Name "zip" p2) [e, e2] [] pos2] [] pos) (iezD as) := by
  refine ⟨(pi_enumZ hg hm hg2 hm2 ha.pa hs hpl hs2).imp fun σ H R q => ?_⟩
  obtain ⟨M, δ, Qd, Xd, E, h, k, kx⟩ := q
  refine ⟨M, δ, _, Xd, E, h, fun ds δ1 vs H1 h1 E1 g1 r1 => ?_, kx⟩
  obtain ⟨d, d2, v, w, _, ev, r2, r3, h2⟩ := two_of r1 h1
  obtain ⟨xs, a, us, _, ea, l, rs, h3⟩ := tup_of r2 h2
  obtain ⟨ys, b, ws, _, eb, l2, rs2, hq⟩ := tup_of r3 h3
  exact ⟨a, b, us, ws, by rw [ev, ea, eb], l.sq, l2.sq, k _ δ1 H1 _ hq E1 g1 (wk_enumZ l rs l2 rs2)⟩
end
end Dn

set_option Elab.async false
set_option linter.all false
set_option maxRecDepth 100000
set_option maxHeartbeats 4000000
namespace Dn
open PySem PySem.Spec PyProof.Rows L2 LamX
/-! ### word(lambda: e): found = 'other' / try: found = call() / except C as e: found = 'moments' if isinstance(e, B) and isinstance(e, ValueError) else 'other' / return found -/
structure WordF (K : Fr) (mg : Str → Option Value) (C B : Str) : Prop where
  gC : mg C = some (.ref (He.ga K C))
  gB : mg B = some (.ref (He.ga K B))
  fI : mg "isinstance" = none
  fV : mg "ValueError" = none
  ec : ExcC K (He.ga K B)
  k1 : PySem.W.kitOne K (.ref (He.ga K B)) (.ref (He.ga K B)) = some true
  k2 : PySem.W.kitOne K (.ref (He.ga K B)) (.type "ValueError") = some true
  em : PySem.W.exmOne K (.ref (He.ga K B)) (.ref (He.ga K C)) = some true
def TTword (K : Fr) (B : Str) (ret : Str) : (XK → Hp → VK → Prop) → Hp → VK → Prop := fun tl H Q => ∀ Q1 : VK, (∀ v H', Q v H' → Q1 v H') → tl (fun cls d H' => cls = .ref (He.ga K B) ∧ d = none ∧ Q (.str ret) H') H Q1
def retL (i : Nat) : TS := fun D σ H => ∃ v, (i < σ.length → σ[i]? = some (some v)) ∧ D.rt v H
theorem ps_retL {X : Cx} {i : Nat} {x : Str} {p pos : Pos} (hx : PE X (.Name x p) (tVar i)) (hi : i < X.N.length) : PSs X [.Return (some (.Name x p)) pos] (retL i) := ⟨fun pins s σ H D I ⟨v, h1, h2⟩ =>
  (pss_one (ps_ret hx)).run pins s σ H D I ⟨v, h1 (by rw [I.len]; exact hi), h2⟩⟩
theorem b_ValueError : bootBuiltins "ValueError" = some (.type "ValueError") := by decide +kernel
abbrev NW : List Str := ["call", "found", "e"]
theorem word_gives {X : Cx} {B C : Str} {x q ret oth : Str} {sg : Scope} {g : Addr} {cdg : Value} {j1 j2 j3 : Nat} {p1 p2 p3 p4 p5 p6 p7 p8 p9 p10 p11 p12 p13 p14 p15 p16 p17 p18 p19 p20 p21 p22 p23 p24 p25 p26 : Pos}
    (F : WordF X.K X.mg C B) (hs0 : sg.names.lookup ("call" : Str) = some .local) (hs1 : sg.names.lookup ("found" : Str) = some .local) (hs2 : sg.names.lookup ("e" : Str) = some .local) (hsC : sg.names.lookup C = some .globalImplicit) (hsB : sg.names.lookup B = some .globalImplicit)
    (hsI : sg.names.lookup ("isinstance" : Str) = some .globalImplicit) (hsV : sg.names.lookup ("ValueError" : Str) = some .globalImplicit) (hdC : (C == ("__debug__" : Str)) = false) (hdB : (B == ("__debug__" : Str)) = false)
    (hsw1 : ∀ env : Env, swapsWith (.Constant (.str oth) j1 p2) (some (.Name "found" p1)) p3.line env = pure false) (hsw2 : ∀ env : Env, swapsWith (.Call (.Name "call" p5) [] [] p6) (some (.Name "found" p4)) p7.line env = pure false)
    (hsw3 : ∀ env : Env, swapsWith (.IfExp (.BoolOp .And [.Call (.Name "isinstance" p10) [.Name "e" p11, .Name B p12] [] p13, .Call (.Name "isinstance" p14) [.Name "e" p15, .Name "ValueError" p16] [] p17] p18) (.Constant (.str ret) j2 p19) (.Constant (.str oth) j3 p20) p21) (some (.Name "found" p9)) p22.line env = pure false) :
    GivesTo X NW x sg g cdg [.Assign [.Name "found" p1] (.Constant (.str oth) j1 p2) p3,
      .Try [.Assign [.Name "found" p4] (.Call (.Name "call" p5) [] [] p6) p7] [.ExceptHandler (some (.Name C p8)) (some "e")
        [.Assign [.Name "found" p9] (.IfExp (.BoolOp .And [.Call (.Name "isinstance" p10) [.Name "e" p11, .Name B p12] [] p13, .Call (.Name "isinstance" p14) [.Name "e" p15, .Name "ValueError" p16] [] p17] p18) (.Constant (.str ret) j2 p19) (.Constant (.str oth) j3 p20) p21) p22] p23] [] [] p24,
      .Return (some (.Name "found" p25)) p26] "call" q (TTword X.K B ret) := by
  intro f c' s H Q tl act hc h
  have nd : NW.Nodup := by decide
  have hgC : Gl (cxOf C8.CX0 X.prog X.w X.K X.mg X.base NW x sg g cdg X.A X.stack s H C8.E0).nox C := hsC
  refine ⟨_, pss_cons (ps_set (X := (cxOf C8.CX0 X.prog X.w X.K X.mg X.base NW x sg g cdg X.A X.stack s H C8.E0).nox) (i := 1) nd rfl (.inl hs1) pe_str (hsw1 _) (.inr hs1))
    (pss_cons (ps_try_as (X := (cxOf C8.CX0 X.prog X.w X.K X.mg X.base NW x sg g cdg X.A X.stack s H C8.E0).nox) (c := .ref (He.ga X.K C)) (i := 2) (Wout := fun _ _ _ _ => False)
        (tb := fun W D σ H => ∃ Ech : XK, (∀ cls d σ' H', Ech cls d H' → W cls d σ' H') ∧ σ[0]? = some (some (.ref f)) ∧ H c' = some (CodeO c' q) ∧ tl Ech H fun v H' => D.nx (σ.set 1 (some v)) H')
        (ts := fun a cls d D σ H => cls = .ref (He.ga X.K B) ∧ d = none ∧ (2 < σ.length → σ[2]? = some (some (.ref a))) ∧ D.nx (σ.set 1 (some (.str ret))) H)
        rfl rfl nd rfl hs2 ⟨hgC, hdC, .inl F.gC⟩ LamX.takes0 (fun W pn xe tk _ => ?_) (fun a oe cls d pn hz hf => ?_))
      (ps_retL (X := (cxOf C8.CX0 X.prog X.w X.K X.mg X.base NW x sg g cdg X.A X.stack s H C8.E0).nox) (i := 1) (pe_var rfl (.inl hs1)) (by show 1 < 3; decide))), ?_⟩
  · refine ⟨fun pins s' σ H' D I h' => ?_⟩
    obtain ⟨Ech, hW, h1, h2, h3⟩ := h'
    have hp := act W pn xe Ech p5 p6 tk hW
    have hq := pss_one (ps_set (pos := p7) (pos' := p4) (i := 1) (x := "found") nd rfl (.inl hs1) hp (hsw2 _) (.inr hs1))
    exact hq.run pins s' σ H' D I ⟨h1, h2, h3⟩
  · refine ⟨fun pins s' σ H' D I h' => ?_⟩
    obtain ⟨ec, ed, h2, h3⟩ := h'
    subst ec ed
    have hI : Gl ((cxOf C8.CX0 X.prog X.w X.K X.mg X.base NW x sg g cdg X.A X.stack s H C8.E0).nox.suite a ((a, oe) :: pn)) "isinstance" := hsI
    have hB : Gl ((cxOf C8.CX0 X.prog X.w X.K X.mg X.base NW x sg g cdg X.A X.stack s H C8.E0).nox.suite a ((a, oe) :: pn)) B := hsB
    have hV : Gl ((cxOf C8.CX0 X.prog X.w X.K X.mg X.base NW x sg g cdg X.A X.stack s H C8.E0).nox.suite a ((a, oe) :: pn)) "ValueError" := hsV
    have ve : ∀ {p : Pos}, PE ((cxOf C8.CX0 X.prog X.w X.K X.mg X.base NW x sg g cdg X.A X.stack s H C8.E0).nox.suite a ((a, oe) :: pn)) (.Name "e" p) (tVar 2) := fun {p} => pe_var rfl (.inl hs2)
    have t1 := pt_val (pe_callB (pos := p13) (p := p10) (call_isE (X := (cxOf C8.CX0 X.prog X.w X.K X.mg X.base NW x sg g cdg X.A X.stack s H C8.E0).nox) (pn := pn) F.ec hz hf) hI F.fI b_isinstance (pa_cons (ve (p := p11)) (pa_cons (pe_glob (v := .ref (He.ga X.K B)) (pos := p12) hB F.gB rfl hdB) pa_nil)))
    have t2 := pt_val (pe_callB (pos := p17) (p := p14) (call_isE (X := (cxOf C8.CX0 X.prog X.w X.K X.mg X.base NW x sg g cdg X.A X.stack s H C8.E0).nox) (pn := pn) F.ec hz hf) hI F.fI b_isinstance (pa_cons (ve (p := p15)) (pa_cons (pe_bltn (v := .ty "ValueError") (pos := p16) hV F.fV b_ValueError rfl) pa_nil)))
    have hq := pss_one (ps_set (pos := p22) (pos' := p9) (i := 1) (x := "found") nd rfl (.inl hs1) (pe_ifExp (pos := p21) (pw_and (pos := p18) t1 (pw_and1 t2)).pt (pe_str (x := ret) (j := j2) (pos := p19)) (pe_str (x := oth) (j := j3) (pos := p20))) (hsw3 _) (.inr hs1))
    have hl : σ.length = 3 := I.len
    have h2' := h2 (by rw [hl]; decide)
    refine hq.run pins s' σ H' D I ?_
    refine ⟨.ref a, h2', .ref (He.ga X.K B), .ref (He.ga X.K B), true, rfl, fun u hu => hu, F.k1, true, rfl, ?_⟩
    show if true = true then _ else _
    rw [if_pos rfl]
    refine ⟨.ref a, h2', .ty "ValueError", .type "ValueError", true, rfl, fun u hu => hu, F.k2, true, rfl, ?_⟩
    show if true = true then _ else _
    rw [if_pos rfl]
    exact h3
  · refine ⟨fun cls d H' => cls = .ref (He.ga X.K B) ∧ d = none ∧ Q (.str ret) H', fun cls d σ' H' ⟨e1, e2, e3⟩ => ⟨true, by rw [e1]; exact F.em, fun _ a _ => ⟨e1, e2, fun hl => ?_, .str ret, fun hl => ?_, e3⟩, fun z => nomatch z⟩, rfl, hc, ?_⟩
    · rw [List.length_set] at hl
      exact List.getElem?_set_self hl
    · simp only [List.length_set] at hl
      rw [List.getElem?_set_ne (by decide), List.getElem?_set_self (by simpa using hl)]
    · exact h _ fun v H' hv => ⟨v, fun _ => rfl, hv⟩
end Dn

set_option Elab.async false
set_option linter.all false
set_option maxRecDepth 100000
set_option maxHeartbeats 4000000
namespace Dn
open PySem PySem.Spec PyProof.Rows L2 LamX
/-! ### lambdas -/
/-- the body's def is one of those that make lambdas -/
structure LamOk (X : Cx) (p : He.Defn) : Prop where
  tb : LamX.TabB X.base X.mg (He.cT X.K p).1 (He.cT X.K p).2
  code : X.env.code = .ref (He.cT X.K p).1
  mem : ((He.cT X.K p).2, X.env.qual ++ "<lambda>") ∈ lamT X.K
  uq : ∀ q ∈ lamT X.K, q.1 = (He.cT X.K p).2 → q.2 = X.env.qual ++ "<lambda>"
/-- f(lambda: e) for such a word: e's data, or ret where B leaves it -/
def lamD (B ret : Str) (eb : DEx) : DEx := fun δ Q Xd => eb δ Q fun x ds δ' => x = B ∧ ds = [] ∧ Q (.str ret) δ'
theorem EnvOk.extN {K : Fr} {g : GX} {M : Ad} {δ : DEnv} {σ : Sg} {H H1 : Hp} (E : EnvOk K g M δ σ H) (e : ExtN H H1) (t : Tabs (lamT K) H1) (n : ∀ b, H b ≠ none → H1 b ≠ none) : EnvOk K g M δ σ H1 ∧ Stp M δ σ H δ H1 :=
  ⟨E.sm e n ⟨t⟩, ⟨⟨fun _ h => .inl h, fun b o _ h nt => e b o h nt, n, fun b o t h => e b o h t.nt⟩, Kin.refl _, fun b o h _ nt => e b o h nt⟩⟩
/-- as the kit's rule for the making of a lambda; here no table comes that was none -/
theorem lam_made {X : Cx} {pins : List (Addr × Obj)} {σ : Sg} {H : Hp} {s : Shared} {T : List (Addr × Str)} {c P : Addr} {params : Arguments} {body : Expr} {scope : Scope} {pos : Pos} {E : Value → Shared → Prop} {Q : Value → Shared → Prop} (I : Inv X pins σ H s) (TB : TabB X.base X.mg c P) (hcode : X.env.code = .ref c)
    (hm : (P, X.env.qual ++ "<lambda>") ∈ T) (hu : ∀ p ∈ T, p.1 = P → p.2 = X.env.qual ++ "<lambda>") (hT : Tabs T H) (hdef : defaultsOf params X.env = ([], [])) (hfree : ∀ y ∈ scope.names, y.2 = .free → ∃ c, X.env.cells.lookup y.1 = some c)
    (h : ∀ (f c' : Addr) (pm ctv : Value) (H1 : Hp) (s' : Shared), Inv X pins σ H1 s' → ExtN H H1 → Tabs T H1 → (∀ b, H b ≠ none → H1 b ≠ none) →
      s'.heap.get? f = some (PySem.W.kla_obj "<lambda>" (X.env.qual ++ "<lambda>") params body scope (cloFrom X.env.cells scope.names []) pm c' ctv) → H1 f = none → f ∉ frs X.stack → H1 c' = some (CodeO c' (X.env.qual ++ "<lambda>")) → Q (.ref f) s') :
    wpAny (model X.prog X.w) X.A (eval (.Lambda params body scope pos) X.env) Q E s := by
  obtain ⟨ps, hP, ht, ha⟩ := hT _ hm
  have bP : s.heap.BuiltinsAt X.mg P := TB.bm.keeps I.bk
  have hP' : s.heap.get? P = some { cls := .none, data := .fields ps } := I.hok P _ hP
  have nofr : ∀ f, s.heap.objs.size ≤ f → f ∉ frs X.stack := fun f hf z => by
    rcases List.mem_cons.mp (I.stkSub _ z) with e | e
    · have h1 := I.lt
      rw [← e] at h1
      exact Nat.lt_irrefl _ (Nat.lt_of_lt_of_le h1 hf)
    · exact I.nofs hf e
  refine PySem.W.kla_eval hdef ?_
  cases hc : codeAmong pos ps.toList with
  | some cv =>
    obtain ⟨c', e, hco⟩ := ha pos cv hc
    subst e
    refine PySem.W.kla_makeFunctionHit (mg := X.mg) (c := c) (P := P) (ps := ps) (closure_ok hfree) I.ok.glob (I.mod.glob.keeps I.bk) hcode (TB.code.keeps I.bk) hP' ht hc bP fun ctv h' tk hx hsz => ?_
    exact h h'.objs.size c' ((X.mg "__name__").getD .none) ctv H _ (I.kept fun b o e => Heap.get?_push_of_some _ (hx b o e)) (ExtN.refl H) hT (fun b e => e) (Heap.get?_push_size _ rfl) (I.hok.fresh hsz) (nofr _ hsz) hco
  | none =>
    refine PySem.W.kla_makeFunction (mg := X.mg) (c := c) (P := P) (ps := ps) (closure_ok hfree) I.ok.glob (I.mod.glob.keeps I.bk) hcode (TB.code.keeps I.bk) hP' ht hc TB.gP bP fun c' ctv h' tk hx hge hlt hrec htb => ?_
    obtain ⟨c2, oc, vs, t, e2, hoc, hd, hv⟩ := hrec
    cases e2
    have hsz : s.heap.objs.size ≤ h'.objs.size := Nat.le_trans hge (Nat.le_of_lt hlt)
    have nC : H c' = none := I.hok.fresh hge
    have I1 := inv_table (t' := tk) (more := #[rawInt pos.line, rawInt pos.col, .ref c']) (h' := h'.push (PySem.W.kla_obj "<lambda>" (X.env.qual ++ "<lambda>") params body scope (cloFrom X.env.cells scope.names []) ((X.mg "__name__").getD .none) c' ctv)) I hP
      (fun b o hb e => Heap.get?_push_of_some _ (hx b o hb e)) (Heap.get?_push_of_some _ htb) hge ⟨oc, vs, t, Heap.get?_push_of_some _ hoc, hd, hv⟩
    have hE : ExtN H (upd (upd H P (.tbl (ps ++ #[rawInt pos.line, rawInt pos.col, .ref c']))) c' (CodeO c' (X.env.qual ++ "<lambda>"))) := fun b o e n => by
      rw [upd_ne (ne_of_none e nC), upd_ne (fun z => n ps (Option.some.inj (e.symm.trans (by rw [z]; exact hP))))]
      exact e
    have eL : (ps ++ #[rawInt pos.line, rawInt pos.col, .ref c']).toList = ps.toList ++ [rawInt pos.line, rawInt pos.col, .ref c'] := by simp
    refine h h'.objs.size c' ((X.mg "__name__").getD .none) ctv _ _ I1 hE (fun p hp => ?_) (fun b e => ?_) (Heap.get?_push_size _ rfl) ?_ (nofr _ hsz) upd_same
    · by_cases hb : p.1 = P
      · rw [hu p hp hb, hb]
        refine ⟨_, by rw [upd_ne (ne_of_none hP nC), upd_same], by rw [eL]; exact PySem.TriplesOk_snoc _ _ _ _ ht, fun p' cv hcv => ?_⟩
        rw [eL] at hcv
        rcases among_app _ ht hcv with z | z
        · obtain ⟨c0, e1, e2⟩ := ha p' cv z
          exact ⟨c0, e1, hE _ _ e2 codeO_ne⟩
        · exact ⟨c', z, upd_same⟩
      · obtain ⟨ps', a1, a2, a3⟩ := hT p hp
        refine ⟨ps', by rw [upd_ne (ne_of_none a1 nC), upd_ne hb]; exact a1, a2, fun p' cv hcv => ?_⟩
        obtain ⟨c0, e1, e2⟩ := a3 p' cv hcv
        exact ⟨c0, e1, hE _ _ e2 codeO_ne⟩
    · exact upd_dom (upd_dom e)
    · have n1 : h'.objs.size ≠ c' := Nat.ne_of_gt hlt
      have n2 : h'.objs.size ≠ P := Nat.ne_of_gt (Nat.lt_of_lt_of_le (Heap.lt_size hP') hsz)
      rw [upd_ne n1, upd_ne n2]
      exact I.hok.fresh hsz
def tLam2 (T : List (Addr × Str)) (TT : (XK → Hp → VK → Prop) → Hp → VK → Prop) (t : XK → TE) : TE := fun σ H Q => Tabs T H ∧ ∀ H1, ExtN H H1 → Tabs T H1 → (∀ b, H b ≠ none → H1 b ≠ none) → TT (fun E H' Q' => t E σ H' Q') H1 Q
theorem pe_lamcall2 {X : Cx} {T : List (Addr × Str)} {TT : (XK → Hp → VK → Prop) → Hp → VK → Prop} {x a : Str} {g c P : Addr} {k : Nat} {pg : Arguments} {bg : List Stmt} {sg : Scope} {dV kV doc pm cdv ct oc : Value} {an od : Option Addr} {osl : Array (Option Value)} {Ng : List Str}
    {params : Arguments} {body : Expr} {scope : Scope} {t : XK → TE} {p lpos pos : Pos} (hg : Gl X x) (hm : X.mg x = some (.ref g)) (hk : PySem.W.keepIn X.K (.ref g) = true)
    (lk : X.K.lookup g = some ⟨oc, od, .func (PySem.W.fnOf x x pg bg sg dV kV doc pm an cdv ct), osl⟩) (hcg : PySem.W.codeIn X.K cdv x = true) (hb : L2.Binds X.K (PySem.W.fnOf x x pg bg sg dV kV doc pm an cdv ct) [a] []) (Sg : FnScope Ng [a] sg) (hNg : Ng[0]? = some a) (hva : Vis sg a)
    (hG : GivesTo X Ng x sg g cdv bg a (X.env.qual ++ "<lambda>") TT)
    (TB : TabB X.base X.mg c P) (hcode : X.env.code = .ref c) (hmT : (P, X.env.qual ++ "<lambda>") ∈ T) (hu : ∀ p ∈ T, p.1 = P → p.2 = X.env.qual ++ "<lambda>") (hr : Room (k + 2) X.A) (L : LamS X.env.scope scope) (hdef : defaultsOf params X.env = ([], []))
    (hbind : ∀ (q : Str) (cl : List (Str × Addr)) (pm cv ctv : Value), bindArgs (PySem.W.kla_fn "<lambda>" q params body scope cl pm cv ctv) ⟨[], []⟩ = pure [])
    (hbody : ∀ (A : Around) (outer : List Env) (s : Shared) (H : Hp) (E : XK) (f c' : Addr), Room k (A.deeper (lamEnv X scope s.heap.objs.size f c')) → PE (lamCx X A outer s H E scope f c') body (t E))
    (hdb : (x == ("__debug__" : Str)) = false := by decide) (hd : (a == ("__debug__" : Str)) = false := by decide) (hcd : (a == ("__classdict__" : Str)) = false := by decide) :
    PE X (.Call (.Name x p) [.Lambda params body scope lpos] [] pos) (tLam2 T TT t) := by
  refine ⟨fun pins s σ H Q I ⟨hT, h⟩ => ?_⟩
  refine wpAny_Call_Name_kw (ld_glob I hg hm (PySem.W.callWith_K (h₀ := X.base) I.ok.mod.kin hk ?_ (by rfl) (by rfl)) hdb)
  show wpAny _ _ (spliced ((false, eval (.Lambda params body scope lpos) X.env) :: backTo pos (starEach [] X.env))) _ _ s
  refine Calls.spliced_cons (lam_made I TB hcode hmT hu hT hdef (L.has I.ok) fun f c' pm' ctv H1 s' I1 eN T1 o1 hf hfn hfr hco => Calls.spliced_nil ⟨I1.kIn, ?_⟩)
  have rc : codeAny (model X.prog X.w) X.A (.call (.ref g) ⟨[.ref f], []⟩) (CR C8.CX0 X.stack X.prog X.w H1 s' Q C8.E0) s' := by
    refine run_ofS (N := Ng) (ps := [a]) (us := [.ref f]) (vs := [.ref f]) lk hcg Sg hr I1.env0 (hb s' [.ref f] I1.kIn rfl) (.cons rfl .nil) rfl fun hr' => ?_
    obtain ⟨t', ht', hq'⟩ := hG f c' s' H1 Q (fun E H' Q' => t E σ H' Q') (fun W pn xe E p1 p2 tk hW => pe_act (i := 0) I1 L hf hfn hfr (hbind _ _ _ _ _) tk hW hr' (fun A outer s H hr2 => hbody A outer s H E f c' hr2) hNg hva hd hcd) hco (h H1 eN T1 o1)
    exact ⟨t', ht'.nox, hq'⟩
  refine wpAny_call (codeAny_mono rc fun r s2 hq => ?_)
  cases r with
  | error e => exact (show False from hq).elim
  | ok fl =>
    cases fl with
    | ret u => exact I1.after hq
    | next => exact False.elim hq
    | brk => exact False.elim hq
    | cont => exact False.elim hq
theorem de_word {X : Cx} {g0 : GX} {W : WX} {B ret : Str} {pd : He.Defn} {x a : Str} {g : Addr} {k : Nat} {pg : Arguments} {bg : List Stmt} {sg : Scope} {dV kV doc pm cdv ct oc : Value} {an od : Option Addr} {osl : Array (Option Value)} {Ng : List Str}
    {params : Arguments} {body : Expr} {scope : Scope} {eb : DEx} {p lpos pos : Pos} (lo : LamOk X pd) (hg : Gl X x) (hm : X.mg x = some (.ref g)) (hk : PySem.W.keepIn X.K (.ref g) = true)
    (lk : X.K.lookup g = some ⟨oc, od, .func (PySem.W.fnOf x x pg bg sg dV kV doc pm an cdv ct), osl⟩) (hcg : PySem.W.codeIn X.K cdv x = true) (hb : L2.Binds X.K (PySem.W.fnOf x x pg bg sg dV kV doc pm an cdv ct) [a] []) (Sg : FnScope Ng [a] sg) (hNg : Ng[0]? = some a) (hva : Vis sg a)
    (hG : GivesTo X Ng x sg g cdv bg a (X.env.qual ++ "<lambda>") (TTword X.K B ret)) (hr : Room (k + 2) X.A) (L : LamS X.env.scope scope) (hdef : defaultsOf params X.env = ([], []))
    (hbind : ∀ (q : Str) (cl : List (Str × Addr)) (pm cv ctv : Value), bindArgs (PySem.W.kla_fn "<lambda>" q params body scope cl pm cv ctv) ⟨[], []⟩ = pure [])
    (hbody : ∀ (A : Around) (outer : List Env) (s : Shared) (H : Hp) (E : XK) (f c' : Addr), Room k (A.deeper (lamEnv X scope s.heap.objs.size f c')) → Takes (lamCx X A outer s H E scope f c') (wE E) → DE (lamCx X A outer s H E scope f c') g0 (wE E) body eb)
    (hdb : (x == ("__debug__" : Str)) = false := by decide) (hd : (a == ("__debug__" : Str)) = false := by decide) (hcd : (a == ("__classdict__" : Str)) = false := by decide) :
    DE X g0 W (.Call (.Name x p) [.Lambda params body scope lpos] [] pos) (lamD B ret eb) := by
  refine ⟨(pe_lamcall2 (T := lamT X.K) (t := fun E => cE X.K g0 (wE E) eb) hg hm hk lk hcg hb Sg hNg hva hG lo.tb lo.code lo.mem lo.uq hr L hdef hbind (fun A outer s H E f c' hr' => (hbody A outer s H E f c' hr' (takes_of rfl rfl rfl rfl)).pe) hdb hd hcd).imp fun σ H Q q => ?_⟩
  obtain ⟨M, δ, Qd, Xd, E, h, kq, kx⟩ := q
  refine ⟨E.pres.2.2.a, fun H1 eN T1 o1 Q1 hQ1 => ?_⟩
  obtain ⟨E1, st⟩ := E.extN eN T1 o1
  refine ⟨M, δ, Qd, _, E1, h, fun d δ' v H' h1 E2 s2 r => hQ1 _ _ (kq d δ' v H' h1 E2 (st.trans s2) r), fun x0 ds δ' cls dd H' ⟨e1, e2, h2⟩ E2 s2 ea => ?_⟩
  subst e1 e2
  refine ⟨ea.1, ?_, kq _ δ' _ H' h2 E2 (st.trans s2) rfl⟩
  rcases ea.2 with ⟨_, z⟩ | ⟨z, _⟩
  · exact z
  · exact absurd rfl z
end Dn

set_option Elab.async false
set_option linter.all false
set_option maxRecDepth 100000
set_option maxHeartbeats 4000000
namespace Dn
open PySem PySem.Spec PyProof.Rows L2 LamX
/-! ### sorted(own list, key=lambda x: x[:2]), the items tuples that begin with two ints -/
section
variable {prog : Program} {w : World} {A : Around} {s : Shared}
/-- x[:2] by the lambda, called -/
theorem key_two {x q : Str} {params : Arguments} {p1 p2 p3 p4 : Pos} {kk : Nat} {scope : Scope} {cl : List (Str × Addr)} {pm ctv z : Value} {c' f a : Addr} {i j : Int} {t1 t2 : Tok}
    (hf : s.heap.get? f = some (PySem.W.kla_obj "<lambda>" q params (.Subscript (.Name x p1) (.Slice none (some (.Constant (.int 2) kk p2)) none p3) p4) scope cl pm c' ctv)) (hcr : s.heap.CodeRec (.ref c') q) (lim : s.heap.NoLimit) (hroom : A.depth < recursionLimit)
    (hbind : bindArgs (PySem.W.kla_fn "<lambda>" q params (.Subscript (.Name x p1) (.Slice none (some (.Constant (.int 2) kk p2)) none p3) p4) scope cl pm (.ref c') ctv) ⟨[.ref a], []⟩ = pure [(x, .ref a)])
    (hco : scope.isCoroutine = false) (hgen : scope.isGenerator = false) (hk : scope.kind = .function) (hcell : ∀ y ∈ scope.names, y.2 ≠ .cell) (hloc : scope.names.lookup x = some .local) (hdb : (x == ("__debug__" : Str)) = false)
    (ht : s.heap.IsTuple a #[.int i t1, .int j t2, z]) :
    wpAny (model prog w) A (call (.ref f) [.ref a]) (PySem.W.KeyPure (.tuple [.int i, .int j]) s) (fun _ _ => False) s := by
  have rc : codeAny (model prog w) A (.call (.ref f) ⟨[.ref a], []⟩) (fun r s' => match r with
      | .ok (.ret v) => PySem.W.KeyPure (.tuple [.int i, .int j]) s v s'
      | _ => False) s := by
    refine PySem.W.kla_callFunE hroom hf rfl hco hgen rfl hcr ?_
    rw [hbind]
    refine wpAny_pure (wpAny_newFunctionEnv hcell (fun y hy => by rw [List.mem_singleton.mp hy]; exact hloc) (fun h₁ hns hsb => ⟨lim.fresh _ hsb, ?_⟩) hk)
    have kp : ∀ b o, s.heap.get? b = some o → h₁.get? b = some o := fun b o e => hsb.extBut b o (Nat.ne_of_lt (Heap.lt_size e)) (Heap.get?_push_of_some _ e)
    refine PySem.W.kla_codeExpr ?_
    have ht1 : h₁.IsTuple a #[.int i t1, .int j t2, z] := ht.at fun o e => kp a o e
    refine Subscript_ (wpAny_Name (wpAny_loadName_local (v := .ref a) hk hloc hns (by simp [List.lookup]) ?_) hdb)
    refine wpAny_Slice ?_
    rw [evalPart_none, evalPart_some]
    refine wpAny_pure (wpAny_Constant_int (wpAny_pure ?_))
    have ht2 : ((Heap.push h₁ { cls := .type "slice", data := .fields #[.none, .int 2 (s.toks + [(x, Value.ref a)].length), .none] })).IsTuple a #[.int i t1, .int j t2, z] := ht1.at fun o e => Heap.get?_push_of_some _ e
    refine tail_any (ops := [.ref h₁.objs.size, .ref a]) ht2.typeIs PyProof.Rows.slot_tuple_getitem.lookup ?_ (by with_unfolding_all rfl)
    refine HT.getItem_tuple_cut (lo := none) (hi := some 2) ht2 (Heap.IsSliceOf.new ..) .none (.int 2 _) (show ¬ (HT.sIx 3 0 none = 0 ∧ HT.sIx 3 3 (some 2) = 3) by decide) ?_ (show 3 ≤ sizeLine by rw [sizeLine_eq]; decide)
    refine ⟨_, _, rfl, fun b o e => Heap.get?_push_of_some _ (Heap.get?_push_of_some _ (kp b o e)), ?_⟩
    exact .tuple (Heap.get?_push_size _ rfl) rfl rfl (.cons (.int i t1) (.cons (.int j t2) .nil))
  refine wpAny_call (codeAny_mono rc fun r s2 hq => ?_)
  cases r with
  | error e => exact False.elim hq
  | ok fl =>
    cases fl with
    | ret u => exact hq
    | next => exact False.elim hq
    | brk => exact False.elim hq
    | cont => exact False.elim hq
end
/-- a value that is a tuple of three, two ints first -/
def Key3 (K : PySem.W.Frag) (H : Hp) (v : V) (i j : Int) : Prop := ∃ a z, v = .ref a ∧ SqT K H a [.int i, .int j, z]
def tSortLam (K : PySem.W.Frag) (T : List (Addr × Str)) (te : TE) : TE := fun σ H Q => te σ H fun v H1 => ∃ (a : Addr) (bs : List (V × Int × Int)), v = .ref a ∧ SqL K H1 a (bs.map (·.1)) ∧ (∀ b ∈ bs, Key3 K H1 b.1 b.2.1 b.2.2) ∧ Tabs T H1 ∧
  ∀ H2, ExtN H1 H2 → Tabs T H2 → (∀ b, H1 b ≠ none → H2 b ≠ none) → ∀ (p : Addr) (cs : List (V × Int × Int)), cs.Perm bs → H2 p = none → Q (.ref p) (upd H2 p (.lst (cs.map (·.1))))
theorem SqT.extN {K : PySem.W.Frag} {H H2 : Hp} {a : Addr} {vs : List V} (e : ExtN H H2) (h : SqT K H a vs) : SqT K H2 a vs := by
  rcases h with (h | ⟨o, h⟩) | h
  · exact .inl (.inl (e _ _ h nt_tup))
  · exact .inl (.inr ⟨o, e _ _ h nt_frz⟩)
  · exact .inr h
theorem SqL.extN {K : PySem.W.Frag} {H H2 : Hp} {a : Addr} {vs : List V} (e : ExtN H H2) (h : SqL K H a vs) : SqL K H2 a vs := by
  rcases h with (h | ⟨o, h⟩) | h
  · exact .inl (.inl (e _ _ h nt_lst))
  · exact .inl (.inr ⟨o, e _ _ h nt_frz⟩)
  · exact .inr h
def Is3 (h : Heap) (u : Value) (b : V × Int × Int) : Prop := RelV b.1 u ∧ ∃ (a : Addr) (t1 t2 : Tok) (z : Value), u = .ref a ∧ h.IsTuple a #[.int b.2.1 t1, .int b.2.2 t2, z]
theorem is3_of {X : Cx} {pins : List (Addr × Obj)} {σ : Sg} {H : Hp} {s : Shared} (I : Inv X pins σ H s) : ∀ {bs : List (V × Int × Int)} {its : List Value}, Vals (bs.map (·.1)) its → (∀ b ∈ bs, Key3 X.K H b.1 b.2.1 b.2.2) → PySem.W.EachIs (Is3 s.heap) its bs
  | [], its, r, _ => by
    cases r
    exact .nil
  | b :: bs, its, r, hk => by
    cases r with
    | cons r1 r2 =>
      refine .cons ⟨r1, ?_⟩ (is3_of I r2 fun c hc => hk c (List.mem_cons_of_mem _ hc))
      obtain ⟨a, z, e, hq⟩ := hk b (List.mem_cons_self ..)
      have r1 : RelV b.1 _ := r1
      rw [e] at r1
      cases r1
      obtain ⟨its', r', pl, _⟩ := I.tuple hq
      cases r' with
      | cons q1 q2 =>
        cases q2 with
        | cons q2 q3 =>
          cases q3 with
          | cons q3 q4 =>
            cases q4
            obtain ⟨t1, rfl⟩ := q1
            obtain ⟨t2, rfl⟩ := q2
            exact ⟨a, t1, t2, _, rfl, pl⟩
theorem vals3 {h : Heap} : ∀ {its : List Value} {bs : List (V × Int × Int)}, PySem.W.EachIs (Is3 h) its bs → Vals (bs.map (·.1)) its
  | _, _, .nil => .nil
  | _, _, .cons a r => .cons a.1 (vals3 r)
section
variable {X : Cx} {T : List (Addr × Str)} {c P : Addr} {k : Nat} {x : Str} {params : Arguments} {scope : Scope} {te : TE} {p p1 p2 p3 p4 lpos kpos pos : Pos} {kk : Nat} {e : Expr}
theorem pe_sortLam (hc : X.calm = true) (hg : Gl X "sorted") (hm : X.mg "sorted" = none) (he : PE X e te)
    (TB : TabB X.base X.mg c P) (hcode : X.env.code = .ref c) (hmT : (P, X.env.qual ++ "<lambda>") ∈ T) (hu : ∀ p ∈ T, p.1 = P → p.2 = X.env.qual ++ "<lambda>") (hr : Room k X.A) (hdef : defaultsOf params X.env = ([], []))
    (hbind : ∀ (q : Str) (cl : List (Str × Addr)) (pm cv ctv v : Value), bindArgs (PySem.W.kla_fn "<lambda>" q params (.Subscript (.Name x p1) (.Slice none (some (.Constant (.int 2) kk p2)) none p3) p4) scope cl pm cv ctv) ⟨[v], []⟩ = pure [(x, v)])
    (hco : scope.isCoroutine = false) (hgen : scope.isGenerator = false) (hkd : scope.kind = .function) (hcell : ∀ y ∈ scope.names, y.2 ≠ .cell ∧ y.2 ≠ .free) (hloc : scope.names.lookup x = some .local) (hdb : (x == ("__debug__" : Str)) = false)
    (hst : backTo pos (starEach [e] X.env) = (false, eval e X.env) :: backTo pos (starEach [] X.env) := by rfl) (hpl : (backTo pos (starEach [e] X.env)).any (·.1) = false := by rfl)
    (hall : (backToKw pos (keywordEach [⟨some "key", .Lambda params (.Subscript (.Name x p1) (.Slice none (some (.Constant (.int 2) kk p2)) none p3) p4) scope lpos, kpos⟩] X.env)).all (·.1.isSome) = true := by rfl) (hnone : (backToKw pos (keywordEach [⟨some "key", .Lambda params (.Subscript (.Name x p1) (.Slice none (some (.Constant (.int 2) kk p2)) none p3) p4) scope lpos, kpos⟩] X.env)).any (·.1.isNone) = false := by rfl)
    (hks : (backToKw pos (keywordEach [⟨some "key", .Lambda params (.Subscript (.Name x p1) (.Slice none (some (.Constant (.int 2) kk p2)) none p3) p4) scope lpos, kpos⟩] X.env)).filterMap (·.1) = [Str.ofString "key"] := by rfl) :
    PE X (.Call (.Name "sorted" p) [e] [⟨some "key", .Lambda params (.Subscript (.Name x p1) (.Slice none (some (.Constant (.int 2) kk p2)) none p3) p4) scope lpos, kpos⟩] pos) (tSortLam X.K T te) := by
  refine ⟨fun pins s σ H Q I h => ?_⟩
  refine wpAny_Call_Name_kw (ld_blt I hg hm b_sorted ?_ (by decide) (by decide))
  refine PyProof.Rows.callWith_kw ?_ hst hpl hall hnone
  rw [hst]
  refine Calls.spliced_cons (thn (he.run pins s σ H _ I h) fun u s1 ⟨v, H1, I1, r1, q1⟩ => Calls.spliced_nil ?_)
  obtain ⟨a, bs, ev, hl, hk3, hT, hQ⟩ := q1
  subst ev
  cases r1
  show wpAny _ _ (evalAll ((do let v ← eval (.Lambda params (.Subscript (.Name x p1) (.Slice none (some (.Constant (.int 2) kk p2)) none p3) p4) scope lpos) X.env; standAt pos; pure v) :: [])) _ _ s1
  refine wpAny_evalAll_cons (wpAny_bind (lam_made I1 TB hcode hmT hu hT hdef (fun y hy e => absurd e (hcell y hy).2) fun f c' pm ctv H2 s2 I2 eN T2 o2 hf hfn hfr hco' => wpAny_bind (wpAny_standAt (wpAny_pure (wpAny_evalAll_nil ?_)))))
  rw [hks]
  show wpAny _ _ (call (.builtin "sorted") [.ref a] [(Str.ofString "key", .ref f)]) _ _ s2
  have hl2 := SqL.extN eN hl
  obtain ⟨its, rv, pl, hz⟩ := I2.list hl2
  obtain ⟨⟨oc, ovs, ot, g1, g2, g3⟩, _, _⟩ := I2.hok c' _ hco'
  have hk2 : ∀ b ∈ bs, Key3 X.K H2 b.1 b.2.1 b.2.2 := fun b hb => by
    obtain ⟨a', z, e1, e2⟩ := hk3 b hb
    exact ⟨a', z, e1, SqT.extN eN e2⟩
  have each := is3_of I2 rv hk2
  have hlen : bs.length ≤ sizeLine := by
    rw [List.length_map] at hz
    exact hz
  have lim := I2.nolimit
  refine PySem.W.sorted_key_data (b := false) (R := Is3 s2.heap) (fun b : V × Int × Int => .tuple [.int b.2.1, .int b.2.2]) pl.isList each (PySem.W.AllAlike.of fun _ _ => by simp [PySem.W.alike, PySem.W.alikeAll]) (PySem.W.Sortable.tuples fun _ => ⟨_, _, rfl⟩) hlen (fun b _ => ?_) (ksk_s1 _ _) (fun _ => ksk_l1 _ _) (fun _ => ksk_t1 _ _)
    (fun u b hR _ h tk kp => ?_) fun out c2 h' tk kp hfree hD hlo eo => ?_
  · have hd : (PyData.tuple [.int b.2.1, .int b.2.2]).depth = 1 := by simp [PyData.depth, PyData.depthAll]
    have := hr.un
    omega
  · obtain ⟨_, a', t1, t2, z, e1, ht⟩ := hR
    subst e1
    exact key_two (s := { s2 with heap := h, toks := tk }) (kp _ _ hf) ⟨c', oc, ovs, ot, rfl, kp _ _ g1, g2, g3⟩ (lim.keeps kp) (by have := hr.depth; exact this) (hbind _ _ _ _ _ _) hco hgen hkd (fun y hy => (hcell y hy).1) hloc hdb (ht.at fun o e => kp _ o e)
  · have vout := vals3 eo
    have pm : (bs.mergeSort (PySem.W.dataLe false fun b : V × Int × Int => .tuple [.int b.2.1, .int b.2.2])).Perm bs := List.mergeSort_perm _ _
    refine ⟨.ref (s2.heap.objs.size + 1), _, I2.laid (t' := tk) (o := .lst ((bs.mergeSort (PySem.W.dataLe false fun b : V × Int × Int => .tuple [.int b.2.1, .int b.2.2])).map (·.1))) kp (Nat.le_succ _) ?_, rfl, hQ H2 eN T2 o2 _ _ pm (I2.hok.fresh (Nat.le_succ _))⟩
    exact ⟨by rw [List.length_map, pm.length_eq]; exact hlen, out, c2, vout, hD⟩
end
end Dn

set_option Elab.async false
set_option linter.all false
set_option maxRecDepth 100000
set_option maxHeartbeats 4000000
namespace Dn
open PySem PySem.Spec PyProof.Rows L2 LamX
theorem reps_perm {K : Fr} {M : Ad} {H : Hp} {vs vs' : List V} (p : vs'.Perm vs) : ∀ {ds : List D}, Reps K M H ds vs → ∃ ds', ds'.Perm ds ∧ Reps K M H ds' vs' := by
  induction p with
  | nil => exact fun {ds} r => ⟨ds, .refl _, r⟩
  | cons x p ih =>
    intro ds r
    cases ds with
    | nil =>
      have e : _ :: _ = [] := r
      cases e
    | cons d ds =>
      obtain ⟨v, w, e, r1, r2⟩ := r
      cases e
      obtain ⟨ds', h1, h2⟩ := ih r2
      exact ⟨d :: ds', h1.cons _, _, _, rfl, r1, h2⟩
  | swap x y l =>
    intro ds r
    cases ds with
    | nil =>
      have e : _ :: _ = [] := r
      cases e
    | cons d ds =>
      obtain ⟨v, w, e, r1, r2⟩ := r
      cases e
      cases ds with
      | nil =>
        have e : _ :: _ = [] := r2
        cases e
      | cons d2 ds =>
        obtain ⟨v2, w2, e2, r3, r4⟩ := r2
        cases e2
        exact ⟨d2 :: d :: ds, .swap _ _ _, _, _, rfl, r3, _, _, rfl, r1, r4⟩
  | trans p1 p2 ih1 ih2 =>
    intro ds r
    obtain ⟨ds1, h1, r1⟩ := ih2 r
    obtain ⟨ds2, h2, r2⟩ := ih1 r1
    exact ⟨ds2, h2.trans h1, r2⟩
def three (d : D) : Prop := ∃ i j z, d = .tup [.int i, .int j, z]
theorem three_key {K : Fr} {M : Ad} {H : Hp} {d : D} {v : V} (r : Rep K M H d v) (h : three d) : ∃ i j, Key3 K H v i j := by
  obtain ⟨i, j, z, e⟩ := h
  subst e
  obtain ⟨a, vs, ev, t, v1, w1, e1, r1, v2, w2, e2, r2, v3, w3, e3, r3, e4⟩ := r
  have r1 : v1 = .int i := r1
  have r2 : v2 = .int j := r2
  have e4 : w3 = [] := e4
  subst e1 e2 e3 e4 r1 r2
  exact ⟨i, j, a, v3, ev, t.sq⟩
theorem three_all {K : Fr} {M : Ad} {H : Hp} : ∀ {ds : List D} {vs : List V}, Reps K M H ds vs → (∀ d ∈ ds, three d) → ∃ bs : List (V × Int × Int), vs = bs.map (·.1) ∧ ∀ b ∈ bs, Key3 K H b.1 b.2.1 b.2.2
  | [], vs, r, _ => ⟨[], r, fun b hb => by cases hb⟩
  | d :: ds, vs, r, h => by
    obtain ⟨v, w, e, r1, r2⟩ := r
    obtain ⟨bs, e2, hb⟩ := three_all r2 fun d hd => h d (List.mem_cons_of_mem _ hd)
    obtain ⟨i, j, hk⟩ := three_key r1 (h d (List.mem_cons_self ..))
    refine ⟨(v, i, j) :: bs, by rw [e, e2]; rfl, fun b hm => ?_⟩
    rcases List.mem_cons.mp hm with e | hm
    · rw [e]
      exact hk
    · exact hb b hm
/-- sorted(x, key=lambda y: y[:2]): some order -/
def sortKD (ev : DFx) : DEx := fun δ Q Xd => ev δ (fun ds δ1 => (∀ d ∈ ds, three d) ∧ ∀ ds', ds'.Perm ds → Q (.lst ds') δ1) Xd
theorem de_sortLam {X : Cx} {g : GX} {W : WX} {ev : DFx} {pd : He.Defn} {k : Nat} {x : Str} {params : Arguments} {scope : Scope} {p p1 p2 p3 p4 lpos kpos pos : Pos} {kk : Nat} {e : Expr} (hc : X.calm = true) (hg : Gl X "sorted") (hm : X.mg "sorted" = none) (he : DV X g W e ev) (lo : LamOk X pd) (hr : Room k X.A) (hdef : defaultsOf params X.env = ([], []))
    (hbind : ∀ (q : Str) (cl : List (Str × Addr)) (pm cv ctv v : Value), bindArgs (PySem.W.kla_fn "<lambda>" q params (.Subscript (.Name x p1) (.Slice none (some (.Constant (.int 2) kk p2)) none p3) p4) scope cl pm cv ctv) ⟨[v], []⟩ = pure [(x, v)])
    (hsc : (!scope.isCoroutine && !scope.isGenerator && decide (scope.kind = .function) && scope.names.all (fun y => decide (y.2 ≠ .cell) && decide (y.2 ≠ .free)) && decide (scope.names.lookup x = some .local) && !(x == ("__debug__" : Str))) = true)
    (hst : backTo pos (starEach [e] X.env) = (false, eval e X.env) :: backTo pos (starEach [] X.env) := by rfl) (hpl : (backTo pos (starEach [e] X.env)).any (·.1) = false := by rfl)
    (hall : (backToKw pos (keywordEach [⟨some "key", .Lambda params (.Subscript (.Name x p1) (.Slice none (some (.Constant (.int 2) kk p2)) none p3) p4) scope lpos, kpos⟩] X.env)).all (·.1.isSome) = true := by rfl) (hnone : (backToKw pos (keywordEach [⟨some "key", .Lambda params (.Subscript (.Name x p1) (.Slice none (some (.Constant (.int 2) kk p2)) none p3) p4) scope lpos, kpos⟩] X.env)).any (·.1.isNone) = false := by rfl)
    (hks : (backToKw pos (keywordEach [⟨some "key", .Lambda params (.Subscript (.Name x p1) (.Slice none (some (.Constant (.int 2) kk p2)) none p3) p4) scope lpos, kpos⟩] X.env)).filterMap (·.1) = [Str.ofString "key"] := by rfl) :
    DE X g W (.Call (.Name "sorted" p) [e] [⟨some "key", .Lambda params (.Subscript (.Name x p1) (.Slice none (some (.Constant (.int 2) kk p2)) none p3) p4) scope lpos, kpos⟩] pos) (sortKD ev) := by
  simp only [Bool.and_eq_true, Bool.not_eq_true', decide_eq_true_eq, List.all_eq_true] at hsc
  obtain ⟨⟨⟨⟨⟨c1, c2⟩, c3⟩, c4⟩, c5⟩, c6⟩ := hsc
  refine ⟨(pe_sortLam (T := lamT X.K) hc hg hm he.pe lo.tb lo.code lo.mem lo.uq hr hdef hbind c1 c2 c3 c4 c5 c6 hst hpl hall hnone hks).imp fun σ H Q q => ?_⟩
  obtain ⟨M, δ, Qd, Xd, E, h, kq, kx⟩ := q
  refine ⟨M, δ, _, Xd, E, h, fun ds δ1 a vs H1 ⟨h3, h1⟩ E1 g1 s1 r1 => ?_, kx⟩
  obtain ⟨bs, e1, hk⟩ := three_all r1 h3
  subst e1
  refine ⟨a, bs, rfl, s1, hk, E1.pres.2.2.a, fun H2 eN T2 o2 p cs pm hp => ?_⟩
  obtain ⟨E2, st⟩ := E1.extN eN T2 o2
  obtain ⟨ds', q1, q2⟩ := reps_perm (pm.map (·.1)) (r1.grow st.g)
  have sm := same_upd (o := .lst (cs.map (·.1))) hp
  exact kq (.lst ds') δ1 (.ref p) _ (h1 ds' q1) (E2.same sm) ((g1.trans st).trans (Stp.same sm)) ⟨p, _, rfl, ⟨not_dom E2.dom hp, upd_same⟩, q2.grow (Grow.of_same sm)⟩
/-! ### defs that make lambdas -/
section
variable {P : Program} {w : World} {K : PySem.W.Frag} {mg : Str → Option Value} {base : Heap} {x qual : Str} {params : Arguments} {body : List Stmt} {scope : Scope} {dvs : List V} {kws : List (Str × V)} {fd : FuncData} {N ps : List Str} {k : Nat}
theorem def_okC (F : FunD K x qual params body scope dvs kws (He.ga K x) fd) (S : FnScope N ps scope) (t : DSt)
    (hb : ∀ (cdv : Value), cdv = .ref (He.cT K (x, none)).1 → ∀ (A : Around) (outer : List Env) (s : Shared) (H : Hp) (E : XK) (g : GX), Room k (A.deeper (envOfC qual scope s.heap.objs.size (He.ga K x) cdv)) → Takes (CtxB P w K mg base N qual scope (He.ga K x) cdv A outer s H E) (wE E) →
      PassesOwn (model P w) (CtxB P w K mg base N qual scope (He.ga K x) cdv A outer s H E).A (CtxB P w K mg base N qual scope (He.ga K x) cdv A outer s H E).env (CtxB P w K mg base N qual scope (He.ga K x) cdv A outer s H E).xe → DSS (CtxB P w K mg base N qual scope (He.ga K x) cdv A outer s H E) g (wE E) body t) :
    FnOk P w K mg base (L2.CX P w) (k + 1) (He.ga K x) fd ps (spP K (wpOf N ps.length t)) := by
  obtain ⟨oc, od, dV, kV, doc, pm, an, cdv, ct, osl, rfl, lk, hcd, _, _⟩ := F.ex
  obtain ⟨c, ec⟩ := He.codeIn_ref hcd
  have ec2 : cdv = .ref (He.cT K (x, none)).1 := by
    rw [ec]
    exact congrArg Value.ref (He.codeOf_eq (p := (x, none)) (show K.lookup (He.fAd K (x, none)) = _ from lk) ec).symm
  refine fn_of lk hcd S (fun vs H Q E h => ?_) fun A outer s H vs Q E hr h => ?_
  · obtain ⟨M, ds, Qd, Xd, dom, _, r, ⟨hl, _⟩, _⟩ := h
    rw [← r.length, hl]
  · obtain ⟨M, ds, Qd, Xd, dom, tb, r, ⟨_, ht⟩, hq, hx⟩ := h
    refine ⟨_, (hb cdv ec2 A outer s H E ⟨H, M, none⟩ hr (takes_of rfl rfl rfl rfl) (passes_of rfl)).pss, ?_⟩
    refine ⟨M, _, _, entry_ok dom tb r, ht, fun M' δ σ H' h1 E1 _ => ?_, fun M' c δ σ v H' h1 E1 ro => ?_, fun _ _ _ _ z => z.elim, fun _ _ _ _ z => z.elim, fun M' xx xs δ cls dd σ H' h1 E1 _ ea => ?_⟩
    · exact hq M' _ .non H' h1 E1.beh rfl
    · exact hq M' c v H' h1 E1.beh ro
    · exact hx M' xx xs cls dd H' h1 E1.beh ea
theorem defH_okC {p0 : Str} (F : FunD K x qual params body scope dvs kws (He.ga K x) fd) (S : FnScope N (p0 :: ps) scope) (t : DSt)
    (hb : ∀ (cdv : Value), cdv = .ref (He.cT K (x, none)).1 → ∀ (A : Around) (outer : List Env) (s : Shared) (H : Hp) (E : XK) (g : GX), Room k (A.deeper (envOfC qual scope s.heap.objs.size (He.ga K x) cdv)) → Takes (CtxB P w K mg base N qual scope (He.ga K x) cdv A outer s H E) (wE E) →
      PassesOwn (model P w) (CtxB P w K mg base N qual scope (He.ga K x) cdv A outer s H E).A (CtxB P w K mg base N qual scope (He.ga K x) cdv A outer s H E).env (CtxB P w K mg base N qual scope (He.ga K x) cdv A outer s H E).xe → DSS (CtxB P w K mg base N qual scope (He.ga K x) cdv A outer s H E) g (wE E) body t) :
    FnOk P w K mg base (L2.CX P w) (k + 1) (He.ga K x) fd (p0 :: ps) (spH K (wpHOf N ps.length t)) := by
  obtain ⟨oc, od, dV, kV, doc, pm, an, cdv, ct, osl, rfl, lk, hcd, _, _⟩ := F.ex
  obtain ⟨c, ec⟩ := He.codeIn_ref hcd
  have ec2 : cdv = .ref (He.cT K (x, none)).1 := by
    rw [ec]
    exact congrArg Value.ref (He.codeOf_eq (p := (x, none)) (show K.lookup (He.fAd K (x, none)) = _ from lk) ec).symm
  refine fn_of lk hcd S (fun vs H Q E h => ?_) fun A outer s H vs Q E hr h => ?_
  · obtain ⟨M, p, us, hs, hv, ds, Qd, e, dom, _, m, hp, rh, r, ⟨hl, _⟩, _⟩ := h
    rw [e, List.length_cons, List.length_cons, ← r.length, hl]
  · obtain ⟨M, p, us, hs, hv, ds, Qd, e, dom, tb, m, hp, rh, r, ⟨_, ht⟩, hq⟩ := h
    subst e
    refine ⟨_, (hb cdv ec2 A outer s H E ⟨H, M, some p⟩ hr (takes_of rfl rfl rfl rfl) (passes_of rfl)).pss, ?_⟩
    have io : ∀ {M' : Ad} {δ : DEnv} {σ : Sg} {H' : Hp} {P : List D → Prop}, EnvOk K ⟨H, M, some p⟩ M' δ σ H' → onOwn P δ[0]? → ∃ hs' hv', P hs' ∧ H' p = some (.lst hv') ∧ Reps K M' H' hs' hv' := fun {M' δ σ H' P} E1 h1 => by
      obtain ⟨ds', e1, h2⟩ := own_of h1
      obtain ⟨d, i1, i2⟩ := E1.ion p rfl
      obtain ⟨p', ds2, vs2, e2, h3, O⟩ := E1.own e1
      rw [i2] at h3
      cases h3
      cases e2
      exact ⟨_, vs2, h2, O.at_, O.reps⟩
    refine ⟨M, _, _, entryH_ok dom tb m hp rh r, ht, fun M' δ σ H' h1 E1 _ => ?_, fun M' c δ σ v H' h1 E1 ro => ?_, fun _ _ _ _ z => z.elim, fun _ _ _ _ z => z.elim, fun M' xx xs δ cls dd σ H' h1 E1 _ ea => h1.elim⟩
    · obtain ⟨hs', hv', h2, h3, h4⟩ := io E1 h1
      exact hq M' hs' hv' _ .non H' h2 E1.beh h3 h4 rfl
    · obtain ⟨hs', hv', h2, h3, h4⟩ := io E1 h1
      exact hq M' hs' hv' c v H' h2 E1.beh h3 h4 ro
end
end Dn
namespace Dn
open PySem PySem.Spec PyProof.Rows L2 LamX
/-- no two of these defs have one table -/
def lamU (K : Fr) : Bool := lamDefs.all fun p => lamDefs.all fun q => !decide ((He.cT K p).2 = (He.cT K q).2) || decide (p.1 = q.1)
theorem lamU_ok {K : Fr} (h : lamU K = true) {p q : He.Defn} (hp : p ∈ lamDefs) (hq : q ∈ lamDefs) (e : (He.cT K p).2 = (He.cT K q).2) : p.1 = q.1 := by
  have h1 := List.all_eq_true.mp (List.all_eq_true.mp h p hp) q hq
  rw [Bool.or_eq_true, Bool.not_eq_true'] at h1
  rcases h1 with z | z
  · exact absurd e (of_decide_eq_false z)
  · exact of_decide_eq_true z
theorem lamOk_of {P : Program} {w : World} {K : Fr} {mg : Str → Option Value} {base : Heap} {N : List Str} {scope : Scope} {f : Addr} {cdv : Value} {A : Around} {outer : List Env} {s : Shared} {H : Hp} {E : XK} {p : He.Defn} (hp : p ∈ lamDefs) (hcd : cdv = .ref (He.cT K p).1) (lu : lamU K = true)
    (tb : ∀ p ∈ lamDefs, TabB base mg (He.cT K p).1 (He.cT K p).2) : LamOk (CtxB P w K mg base N p.1 scope f cdv A outer s H E) p where
  tb := tb p hp
  code := hcd
  mem := List.mem_map.mpr ⟨p, hp, rfl⟩
  uq := fun q hq e => by
    obtain ⟨r, hr, er⟩ := List.mem_map.mp hq
    subst er
    have z : r.1 = p.1 := lamU_ok lu hr hp e
    show (r.1 ++ ".<locals>.") ++ "<lambda>" = (p.1 ++ ".<locals>.") ++ "<lambda>"
    rw [z]
/-- an own error class, asked in its suite -/
def excCB (K : Fr) (B : Str) : Bool := He.eqO (PySem.W.findIn K (.ref (He.ga K B)) "__getattribute__") (some (some (.builtin "BaseException.__getattribute__"))) && (He.eqO (PySem.W.findIn K (.ref (He.ga K B)) "__getattr__") (some none) && (decide (PySem.W.subIn K (.ref (He.ga K B)) (.type "BaseException") = some true) && (PySem.W.hasDictIn K (He.ga K B) &&
  (He.eqO (PySem.W.findIn K (.ref (He.ga K B)) "__class__") (some (some (.builtin "object.__class__"))) && (He.eqO (PySem.W.specialIn K (.builtin "object.__class__") "__get__") (some (some (.builtin "getset_descriptor.__get__"))) && (decide (PySem.W.takesIn K (.builtin "object.__class__") = some true) && (decide (PySem.W.mroIn K (He.ga K B) (.type "object") = some true) &&
    (decide (PySem.W.kitOne K (.ref (He.ga K B)) (.ref (He.ga K B)) = some true) && decide (PySem.W.kitOne K (.ref (He.ga K B)) (.type "ValueError") = some true)))))))))
theorem excCB_ok {K : Fr} {B : Str} (h : excCB K B = true) : ExcC K (He.ga K B) ∧ PySem.W.kitOne K (.ref (He.ga K B)) (.ref (He.ga K B)) = some true ∧ PySem.W.kitOne K (.ref (He.ga K B)) (.type "ValueError") = some true := by
  obtain ⟨h1, h⟩ := He.ba h
  obtain ⟨h2, h⟩ := He.ba h
  obtain ⟨h3, h⟩ := He.ba h
  obtain ⟨h4, h⟩ := He.ba h
  obtain ⟨h5, h⟩ := He.ba h
  obtain ⟨h6, h⟩ := He.ba h
  obtain ⟨h7, h⟩ := He.ba h
  obtain ⟨h8, h⟩ := He.ba h
  obtain ⟨h9, h10⟩ := He.ba h
  exact ⟨⟨He.eqO_ok h1, He.eqO_ok h2, of_decide_eq_true h3, h4, He.eqO_ok h5, He.eqO_ok h6, of_decide_eq_true h7, of_decide_eq_true h8⟩, of_decide_eq_true h9, of_decide_eq_true h10⟩
end Dn

set_option Elab.async false
set_option linter.all false
set_option maxRecDepth 100000
set_option maxHeartbeats 4000000
namespace L2
open PySem PySem.Spec PyProof.Rows
section
variable {X : Cx} {pins : List (Addr × Obj)} {σ : St} {H : Hp} {s : Shared} {a b : Addr} {r : Value} {d : V} {k : List Key} {A : Around} {E : Value → Shared → Prop}
theorem d_setdT {kvs : List (List Key × V)} {Q : Value → Shared → Prop} (hu : A.units + 1 < cLine) (I : Inv X pins σ H s) (e : H a = some (.dT kvs)) (eb : H b = some (.tup (k.map kV))) (rd : RelV d r) (hl : kvs.length < sizeLine)
    (h1 : ∀ v, valV kvs k = some v → ∀ (w' : Value) (s' : Shared), Inv X pins σ H s' → RelV v w' → Q w' s') (h2 : valV kvs k = none → ∀ (w' : Value) (s' : Shared), Inv X pins σ (upd H a (.dT (putK kvs k d))) s' → RelV d w' → Q w' s') :
    wpAny (model X.prog X.w) A (call (.builtin "dict.setdefault") [.ref a, .ref b, r]) Q E s := by
  obtain ⟨z, hd, xs, rel, dd⟩ := dt_of I.hok e
  have hz : xs.length ≤ sizeLine := by
    rw [← Paired.length rel]
    exact z
  refine call_setdefault_heap (knd := tupleKind (mixKind X.prog X.w)) (hsz := hz) (tupleKind_room_in1 hu) (key_of I.hok eb) hd dd (fun p hp => ?_) fun hn h' dd' hs => ?_
  · have q := rel.val k
    rw [hp] at q
    cases q0 : valV kvs k with
    | none =>
      rw [q0] at q
      exact (show False from q).elim
    | some v0 =>
      rw [q0] at q
      exact h1 v0 q0 _ _ (I.tok _) q
  · have q := rel.val k
    rw [hn] at q
    cases q0 : valV kvs k with
    | some v0 =>
      rw [q0] at q
      exact (show False from q).elim
    | none =>
      have hl2 : (putK kvs k d).length ≤ sizeLine := by
        have := length_putK kvs k d
        omega
      obtain ⟨o, es, ep, hq, h2', h3, h4, _, h5⟩ := dd'
      refine h2 q0 _ _ (d_write (t' := _) I (by rw [e]; exact True.intro) hs ⟨o, hq⟩ ⟨hl2, hd, _, ((rel.put k eb rd).keeps fun c ys ec => by rw [upd_ne (ne_of ec e (fun z => nomatch z))]; exact ec), o, es, ep, hq, h2', h3, h4, h5⟩) rd
end
/-- d.setdefault(y, z), y a tuple -/
def tDSetT (td ty tx : TE) : TE := fun σ H Q => td σ H fun x H1 => ∃ a, x = .ref a ∧ IsD H1 a ∧ ty σ H1 fun y H2 => tx σ H2 fun z H3 => ∃ (kvs : List (List Key × V)) (k : List Key) (b : Addr), H3 a = some (.dT kvs) ∧ y = .ref b ∧ H3 b = some (.tup (k.map kV)) ∧ kvs.length < sizeLine ∧
  (∀ v, valV kvs k = some v → Q v H3) ∧ (valV kvs k = none → Q z (upd H3 a (.dT (putK kvs k z))))
section
variable {X : Cx} {o e f : Expr} {td ty tx : TE} {apos cpos : Pos}
theorem pe_dsetdT (hu : X.A.units + 1 < cLine) (ho : PE X o td) (he : PE X e ty) (hf : PE X f tx) (m : M2 X o "setdefault" apos e f cpos) : PE X (.Call (.Attribute o "setdefault" apos) [e, f] [] cpos) (tDSetT td ty tx) := by
  refine ⟨fun pins s σ H Q I h => ?_⟩
  refine wpAny_Call_method m.base m.few m.line PySem.F.plainAttrs_dict PySem.F.slot_dict_setdefault PySem.F.type_dict_setdefault (thn (ho.run pins s σ H _ I h) fun u s1 ⟨x, H1, I1, rx, a, ex, d, q1⟩ => ?_)
  subst ex
  obtain rfl : u = Value.ref a := rx
  obtain ⟨t1, t2, _⟩ := isD_at I1 d
  refine ⟨t1, t2, ?_⟩
  rw [m.trees]
  refine Calls.callWith_builtin rfl (Calls.evalArgs_plain (Calls.spliced_cons (thn (he.run pins s1 σ H1 _ I1 q1) fun iv s2 ⟨y, H2, I2, ry, q2⟩ =>
    Calls.spliced_cons (thn (hf.run pins s2 σ H2 _ I2 q2) fun fv s3 ⟨z, H3, I3, rz, kvs, k, b, ea, ey, eb, hl, q3, q4⟩ => Calls.spliced_nil ?_))))
  subst ey
  obtain rfl : iv = Value.ref b := ry
  exact d_setdT hu I3 ea eb rz hl (fun v hv w' s4 I4 rw' => ⟨v, _, I4, rw', q3 v hv⟩) fun hn w' s4 I4 rw' => ⟨z, _, I4, rw', q4 hn⟩
end
end L2

set_option Elab.async false
set_option linter.all false
set_option maxRecDepth 100000
set_option maxHeartbeats 4000000
namespace L2
open PySem PySem.Spec PyProof.Rows
theorem isKeys_vals {H : Hp} : ∀ {ks : List (List Key)} {bs : List Addr}, Paired (fun k b => H b = some (.tup (k.map kV))) ks bs → ks.length = bs.length := fun h => Paired.length h
theorem zip_of_maps {α β γ : Type} (f : α → β) (g : α → γ) : ∀ zs : List α, (zs.map f).zip (zs.map g) = zs.map fun x => (f x, g x)
  | [] => rfl
  | y :: ys => by rw [List.map_cons, List.map_cons, List.zip_cons_cons, zip_of_maps f g ys, List.map_cons]
/-- sorted(d): the keys in some order -/
def rSortDT : List V → Hp → VK → Prop := fun xs H Q => ∃ (a : Addr) (kvs : List (List Key × V)) (B : Int), xs = [.ref a] ∧ H a = some (.dT kvs) ∧ kvs.length < 64 ∧ (∀ p ∈ kvs, ∃ i j : Int, p.1 = [.inl i, .inl j] ∧ 0 ≤ i ∧ i < B ∧ 0 ≤ j ∧ j < B) ∧
  ∀ (l : Addr) (ks : List (List Key)) (bs : List Addr), H l = none → ks.Perm (kvs.map (·.1)) → Paired (fun k b => H b = some (.tup (k.map kV))) ks bs → Q (.ref l) (upd H l (.lst (bs.map V.ref)))
theorem paired_zip {α β : Type} {F : α → β → Prop} : ∀ {xs : List α} {ys : List β}, xs.length = ys.length → (∀ z ∈ xs.zip ys, F z.1 z.2) → Paired F xs ys
  | [], [], _, _ => .nil
  | [], _ :: _, h, _ => by simp at h
  | _ :: _, [], h, _ => by simp at h
  | x :: xs, y :: ys, h, f => .cons (f (x, y) (List.mem_cons_self ..)) (paired_zip (by simpa using h) fun z hz => f z (List.mem_cons_of_mem _ hz))
/-- the kit's rule for what collect makes of a dict, here with the heap's size -/
theorem collect_grown {prog : Program} {w : World} {A : Around} {E : Value → Shared → Prop} {s : Shared} {T : String} {r d : Addr} {n : Nat} {P : Nat → Value → Prop} {OK : Heap → Prop} {R : List Value → Shared → Prop} (src : PySem.W.KdlSrc prog w T r d n P OK) (hh : A.handled = none) (ok0 : OK s.heap) (few : n ≤ sizeLine)
    (fin : ∀ (h1 : Heap) (t1 : Nat) (got : Array Value), (∀ b o, s.heap.get? b = some o → h1.get? b = some o) → s.heap.objs.size < h1.objs.size → ItemsOf P got n → R got.toList { s with heap := h1, toks := t1 }) : wpAny (model prog w) A (collect (.ref r)) R E s := by
  obtain ⟨lr, ld⟩ := src.there _ ok0
  have Z : (s.heap.push { cls := .type "list", data := .seq ([] : List Value).toArray }).get? s.heap.objs.size = some { cls := .type "list", data := .seq #[] } := Heap.get?_push_size _ rfl
  have run := PySem.W.kdl_extend (A := A) (s := { s with heap := s.heap.push { cls := .type "list", data := .seq ([] : List Value).toArray } })
    (R := fun q s1 => ∃ h1 t1 got c1, q = .ok (.ret (.ref s.heap.objs.size)) ∧ s1 = { s with heap := h1, toks := t1 } ∧ (∀ b o, s.heap.get? b = some o → h1.get? b = some o) ∧ h1.get? s.heap.objs.size = some { cls := .type "list", dict := none, data := .seq got c1, slots := #[] } ∧ ItemsOf P got n)
    src hh (src.keep _ _ ok0 fun _ _ _ e => Heap.get?_push_of_some _ e) s.heap.objs.size (Nat.ne_of_gt lr) (Nat.ne_of_gt ld) (.ref s.heap.objs.size) 0 Z
    (fun h1 t1 got c1 k z it => ⟨h1, t1, got, c1, rfl, rfl, fun b o e => k b o (Nat.ne_of_lt (Heap.lt_size e)) (Heap.get?_push_of_some _ e), z, it⟩) few
  have last : ∀ (q : Result) (s1 : Shared), (∃ h1 t1 got c1, q = .ok (.ret (.ref s.heap.objs.size)) ∧ s1 = { s with heap := h1, toks := t1 } ∧ (∀ b o, s.heap.get? b = some o → h1.get? b = some o) ∧ h1.get? s.heap.objs.size = some { cls := .type "list", dict := none, data := .seq got c1, slots := #[] } ∧ ItemsOf P got n) →
      q = .ok (.ret (.ref s.heap.objs.size)) ∧ wpAny (model prog w) A (do match (← load s.heap.objs.size).data with | .seq xs _ => pure xs.toList | _ => unsupported "internal:collect") R E s1 := by
    rintro q s1 ⟨h1, t1, got, c1, rfl, rfl, k, z, it⟩
    exact ⟨rfl, wpAny_bind (wpAny_load z (wpAny_pure (fin h1 t1 got k (Heap.lt_size z) it)))⟩
  unfold collect
  refine wpAny_bind (wpAny_runValue (codeAny_builtin F.entry_proto_collect ?_))
  rw [Around.under_plainId PySem.F.plain_proto_collect _]
  show wpAny _ A.in1 (newList [] >>= fun l => again (.builtin "list.__iadd__" ⟨[l, .ref r], []⟩)) _ _ s
  refine wpAny_bind (wpAny_newObj_type (wpAny_pure ⟨plainId_quiet PySem.F.plain_list_iadd _, codeAny_builtin F.entry_list_iadd ?_⟩))
  rw [Around.under_plainId PySem.F.plain_list_iadd _]
  show wpAny _ A.in1 (Builtin.List.listExtendWith (.ref s.heap.objs.size) (.ref r) (.ref s.heap.objs.size)) _ _ _
  refine wpAny_mono run (fun fin1 s1 x => ?_) fun e s1 x => ?_
  · cases fin1 with
    | done f =>
      obtain ⟨e, q⟩ := last _ _ x
      cases e
      exact q
    | again c1 =>
      refine ⟨x.1, codeAny_mono x.2 fun q s2 y => ?_⟩
      obtain ⟨e, q⟩ := last _ _ y
      subst e
      exact q
  · have e := (last _ _ x).1
    cases e
theorem cr_sortedDT {X : Cx} (hc : X.calm = true) : CallR X (.builtin "sorted") rSortDT := by
  intro pins s σ H xs us Q I r h
  obtain ⟨a, kvs, B, rfl, ha, h64, hB, q⟩ := h
  obtain ⟨u, rfl, rx⟩ := r.one
  obtain rfl : u = Value.ref a := rx
  obtain ⟨z, hs, ks, pr, o, es, ep, ho, hx, hdt, he, hn⟩ := (show ObjOk X.prog X.w H s.heap a (.dT kvs) from I.hok a _ ha)
  have l1 : es.size = ks.length := size_of_entries he
  have l2 : kvs.length = ks.length := Paired.length pr
  refine Calls.call_function_entry PyProof.Rows.kind_sorted PyProof.Rows.plain_sorted PyProof.Rows.entry_sorted (PyProof.Rows.args_sorted1 _) ?_
  unfold Builtin.«sorted»
  refine wpAny_bind (m := checkCount "sorted" 1 1 _) (wpAny_pure ?_)
  refine wpAny_bind (collect_grown (A := X.A.in1) (kdl_raw hs hx hdt) (I.ok.hd hc) ho (by omega) fun h' tk acc' kp hgt it => ?_)
  have ea : acc'.toList = ks.map fun x => Value.ref x.2.1 := by
    have hl : acc'.toList.length = ks.length := by rw [Array.length_toList, it.1]; exact l1
    apply List.ext_getElem?
    intro j
    rw [List.getElem?_map]
    cases hj : acc'.toList[j]? with
    | none =>
      have h1 := List.getElem?_eq_none_iff.mp hj
      rw [List.getElem?_eq_none (by omega)]
      all_goals rfl
    | some v =>
      obtain ⟨en, hen, hv⟩ := it.2 j v (by rw [← Array.getElem?_toList]; exact hj)
      have qe := entry_at he j
      rw [hen] at qe
      cases hb : ks[j]? with
      | none =>
        rw [hb] at qe
        exact nomatch (show some en = none from qe)
      | some b =>
        rw [hb] at qe
        have e2 : en = entryOfKey (tupleKind (mixKind X.prog X.w)) b := Option.some.inj qe
        rw [hv, e2]
        all_goals rfl
  generalize hvs : acc'.toList = vs at ea
  have lv : vs.length = ks.length := by rw [ea, List.length_map]
  refine wpAny_bind (wpAny_newList ?_ (by rw [sizeLine_eq]; omega))
  have hob : (h'.push { cls := .type "list", data := .seq vs.toArray }).get? h'.objs.size = some (seqObj "list" vs.toArray 0) := Heap.get?_push_size _ rfl
  have I1 : Inv X pins σ H { s with heap := h', toks := tk } := I.kept (t' := tk) kp
  have at_ : ∀ v ∈ vs, ∃ (x : List Key × Addr × Value), x ∈ ks ∧ v = .ref x.2.1 := fun v hv => by
    rw [ea] at hv
    obtain ⟨x, hx, e⟩ := List.mem_map.mp hv
    exact ⟨x, hx, e.symm⟩
  have key : ∀ x ∈ ks, H x.2.1 = some (.tup (x.1.map kV)) ∧ ∃ i j : Int, x.1 = [.inl i, .inl j] ∧ 0 ≤ i ∧ i < B ∧ 0 ≤ j ∧ j < B := fun x hx => by
    obtain ⟨j, hj⟩ := List.mem_iff_getElem?.mp hx
    obtain ⟨p, hp, e1, e2, _⟩ := DX.pget pr hj
    exact ⟨by rw [← e1]; exact e2, by rw [← e1]; exact hB p (List.mem_of_getElem? hp)⟩
  have keep2 : ∀ b u, s.heap.get? b = some u → (h'.push { cls := .type "list", data := .seq vs.toArray }).get? b = some u := fun b u e => Heap.get?_push_of_some _ (kp b u e)
  have tups : TS.TupsOk (h'.push { cls := .type "list", data := .seq vs.toArray }) 2 B vs := by
    intro v hv
    obtain ⟨x, hx, rfl⟩ := at_ v hv
    obtain ⟨hH, i, j, ek, b1, b2, b3, b4⟩ := key x hx
    obtain ⟨_, its, rt, ot, hot, hct, nt, hdt'⟩ := (show ObjOk X.prog X.w H s.heap x.2.1 (.tup (x.1.map kV)) from I.hok _ _ hH)
    refine ⟨[i, j], ⟨x.2.1, its.toArray, rfl, ⟨ot, keep2 _ _ hot, hct, nt, hdt'⟩, ?_⟩, rfl, fun m hm => ?_⟩
    · rw [ek] at rt
      cases rt with
      | cons r1 r2 =>
        cases r2 with
        | cons r3 r4 =>
          cases r4
          obtain ⟨t1, rfl⟩ := r1
          obtain ⟨t2, rfl⟩ := r3
          exact .cons _ _ (.cons _ _ .nil)
    · rcases List.mem_cons.mp hm with e | hm
      · rw [e]; exact ⟨b1, b2⟩
      · rw [List.mem_singleton.mp hm]; exact ⟨b3, b4⟩
  have hs0 : s.heap.objs.size ≤ h'.objs.size := Nat.le_of_lt hgt
  have hg := TS.call_sort_tups (prog := X.prog) (w := X.w) (A := X.A.in1) (E := X.xe) (s := { s with heap := h'.push { cls := .type "list", data := .seq vs.toArray }, toks := tk }) (d := 2) (B := B) (Q := fun _ s' => EP X pins σ Q (.ref h'.objs.size) s') hob (by omega) (by decide) tups fun out pm pw => ?_
  · refine wpAny_bind (wpAny_holding (wpAny_mono hg (fun _ s' x => ?_) fun _ _ e => e))
    exact wpAny_pure ⟨_, rfl, x⟩
  · obtain ⟨zs, pz, ez⟩ := perm_lift (fun x : List Key × Addr × Value => Value.ref x.2.1) pm ks ea.symm
    obtain ⟨c, hc'⟩ := PyProof.Rows.sortedHeap_at (vs := vs) (out := out) hob
    have hn0 : H h'.objs.size = none := I.hok.fresh hs0
    have rv : Vals ((zs.map fun x => x.2.1).map V.ref) out.toList := by
      rw [← ez]
      have e : zs.map (fun x : List Key × Addr × Value => Value.ref x.2.1) = (zs.map fun x => x.2.1).map Value.ref := by rw [List.map_map]; all_goals rfl
      rw [e]
      exact vals_refs _
    refine ⟨.ref h'.objs.size, _, I.laid (t' := tk) (o := .lst ((zs.map fun x => x.2.1).map V.ref)) (fun b u e => ?_) hs0 ⟨?_, out.toList, c, rv, hc'⟩, rfl, q _ (zs.map (·.1)) _ hn0 ?_ ?_⟩
    · have hlt : b < h'.objs.size := Heap.lt_size (kp b u e)
      show (PyProof.Rows.sortedHeap (h'.push { cls := .type "list", data := .seq vs.toArray }) h'.objs.size vs out).get? b = some u
      rw [PyProof.Rows.sortedHeap_old (Nat.ne_of_lt hlt) (by rw [Heap.size_push]; exact Nat.lt_succ_of_lt hlt)]
      exact keep2 b u e
    · rw [List.length_map, List.length_map, pz.length_eq, sizeLine_eq]; omega
    · have e : kvs.map (·.1) = ks.map (·.1) := by
        have : ∀ {l : List (List Key × V)} {m : List (List Key × Addr × Value)}, KT H l m → l.map (·.1) = m.map (·.1) := by
          intro l m q
          induction q with
          | nil => rfl
          | cons h t ih => rw [List.map_cons, List.map_cons, ih, h.1]
        exact this pr
      rw [e]
      exact pz.map _
    · refine paired_zip (by rw [List.length_map, List.length_map]) fun z hz => ?_
      obtain ⟨x, hx, e1⟩ : ∃ x ∈ zs, z = (x.1, x.2.1) := by
        rw [zip_of_maps] at hz
        obtain ⟨x, hx, e⟩ := List.mem_map.mp hz
        exact ⟨x, hx, e.symm⟩
      rw [e1]
      exact (key x (pz.mem_iff.mp hx)).1
end L2

set_option Elab.async false
set_option linter.all false
set_option maxRecDepth 100000
set_option maxHeartbeats 4000000
namespace Dn
open PySem PySem.Spec PyProof.Rows L2
/-! ### dicts with tuples as keys that are made in a loop -/
abbrev Acc := List (List Key × D)
def InAt (K : Fr) (M : Ad) (H : Hp) (q : Addr) : D → Prop
  | .lst ds => ∃ us, H q = some (.lst us) ∧ Reps K M H ds us
  | .dck ks ds => ∃ us, H q = some (.dK (ks.zip us)) ∧ ks.length = us.length ∧ Reps K M H ds us
  | _ => False
structure Grp (K : Fr) (g : GX) (M : Ad) (δ : DEnv) (σ : Sg) (H : Hp) (p : Addr) (acc : Acc) (qs : List Addr) : Prop where
  len : acc.length = qs.length
  nd : qs.Nodup
  at_ : H p = some (.dT ((acc.map (·.1)).zip (qs.map V.ref)))
  own : ∀ b, b ∈ p :: qs → M b ∧ g.H0 b = none ∧ NotOwn δ σ b
  inn : ∀ (i : Nat) (q : Addr) (e : List Key × D), qs[i]? = some q → acc[i]? = some e → InAt K M H q e.2
section
variable {K : Fr} {g : GX} {M M' : Ad} {δ δ' : DEnv} {σ σ' : Sg} {H H' : Hp} {p q : Addr} {acc : Acc} {qs : List Addr} {d : D}
theorem InAt.grow (h : InAt K M H q d) (gr : Grow M H M' H') (k : H' q = H q) : InAt K M' H' q d := by
  cases d with
  | lst ds =>
    obtain ⟨us, h1, h2⟩ := h
    exact ⟨us, by rw [k]; exact h1, h2.grow gr⟩
  | dck ks ds =>
    obtain ⟨us, h1, h2, h3⟩ := h
    exact ⟨us, by rw [k]; exact h1, h2, h3.grow gr⟩
  | _ => exact h.elim
theorem InAt.not_dT (h : InAt K M H q d) {kvs : List (List Key × V)} : H q ≠ some (.dT kvs) := by
  intro e
  cases d with
  | lst ds =>
    obtain ⟨us, h1, h2⟩ := h
    rw [e] at h1
    cases h1
  | dck ks ds =>
    obtain ⟨us, h1, h2, h3⟩ := h
    rw [e] at h1
    cases h1
  | _ => exact h.elim
theorem InAt.there (h : InAt K M H q d) : ∃ o, H q = some o ∧ Nx o ∧ Nt o := by
  cases d with
  | lst ds =>
    obtain ⟨us, h1, h2⟩ := h
    exact ⟨_, h1, nx_lst, nt_lst⟩
  | dck ks ds =>
    obtain ⟨us, h1, h2, h3⟩ := h
    exact ⟨_, h1, nx_dK, nt_dK⟩
  | _ => exact h.elim
theorem Grp.ent (G : Grp K g M δ σ H p acc qs) {b : Addr} (hb : b ∈ qs) : ∃ (i : Nat) (e : List Key × D), qs[i]? = some b ∧ acc[i]? = some e ∧ InAt K M H b e.2 := by
  obtain ⟨i, hi⟩ := List.mem_iff_getElem?.mp hb
  have hl : i < acc.length := by rw [G.len]; exact (List.getElem?_eq_some_iff.mp hi).1
  exact ⟨i, _, hi, List.getElem?_eq_getElem hl, G.inn i b _ hi (List.getElem?_eq_getElem hl)⟩
theorem Grp.pn (G : Grp K g M δ σ H p acc qs) : p ∉ qs := fun hp => by
  obtain ⟨_, _, _, _, h⟩ := G.ent hp
  exact h.not_dT G.at_
theorem Grp.there (G : Grp K g M δ σ H p acc qs) {b : Addr} (hb : b ∈ p :: qs) : ∃ o, H b = some o ∧ Nx o ∧ Nt o := by
  rcases List.mem_cons.mp hb with e | hb
  · subst e
    exact ⟨_, G.at_, nx_dT, nt_dT⟩
  · obtain ⟨_, _, _, _, h⟩ := G.ent hb
    exact h.there
theorem Grp.mono (G : Grp K g M δ σ H p acc qs) (gr : Grow M H M' H') (hM : ∀ b, M b → M' b) (k : ∀ b, b ∈ p :: qs → H' b = H b) (no : ∀ b, b ∈ p :: qs → NotOwn δ σ b → NotOwn δ' σ' b) : Grp K g M' δ' σ' H' p acc qs where
  len := G.len
  nd := G.nd
  at_ := (k p (List.mem_cons_self ..)).trans G.at_
  own := fun b hb => ⟨hM b (G.own b hb).1, (G.own b hb).2.1, no b hb (G.own b hb).2.2⟩
  inn := fun i q e h1 h2 => (G.inn i q e h1 h2).grow gr (k q (List.mem_cons_of_mem _ (List.mem_of_getElem? h1)))
theorem Grp.stp (G : Grp K g M δ σ H p acc qs) (st : Stp M δ σ H δ' H') : Grp K g M δ' σ H' p acc qs :=
  G.mono st.g (fun _ h => h) (fun b hb => by
    obtain ⟨o, ho, _, nt⟩ := G.there hb
    rw [ho]
    exact st.f b o ho (G.own b hb).2.2 nt) fun b _ no => st.k.notOwn no
theorem Grp.tgt {ts : List Nat} (G : Grp K g M δ σ H p acc qs) (t : Tgt ts δ σ δ' σ') : Grp K g M δ' σ' H p acc qs :=
  G.mono (Grow.refl _ _) (fun _ h => h) (fun _ _ => rfl) fun b _ no i d h1 h2 => by
    by_cases hi : i ∈ ts
    · exact t.o i hi d h1
    · rw [t.d i hi] at h1
      rw [t.s i hi] at h2
      exact no i d h1 h2
theorem notOwn_new (E : EnvOk K g M δ σ H) (h : H q = none) : NotOwn δ σ q := fun i d h1 h2 => by
  obtain ⟨p', ds, vs, _, h3, O⟩ := E.own h1
  rw [h2] at h3
  cases h3
  exact E.dom q O.m h
/-- a new thing beside -/
theorem Grp.and {o : HO} (G : Grp K g M δ σ H p acc qs) (h : H q = none) : Grp K g (M.and q) δ σ (upd H q o) p acc qs :=
  G.mono (Grow.and h) (fun _ h => .inl h) (fun b hb => by
    obtain ⟨o', ho, _, _⟩ := G.there hb
    rw [upd_ne (ne_of_none ho h)]) fun _ _ no => no
/-- a thing of one's own that is no own list of the names is written: values are kept -/
theorem write_grow {o o0 : HO} (hp : H p = some o0) (nx : Nx o0) (m : M p) : Grow M H M (upd H p o) := ⟨fun _ h => .inl h, fun b o' n h _ => by
  rw [upd_ne (fun e => n (by rw [e]; exact m))]
  exact h, fun b h => upd_dom h, fun b o' t h => upd_tp hp nx.2.2 t h⟩
/-- the new thing is put in -/
theorem Grp.push {k : List Key} {o : HO} {new : D} (G : Grp K g M δ σ H p acc qs) (hq : H q = some o) (nq : q ∉ p :: qs) (ho : g.H0 q = none) (m : M q) (no : NotOwn δ σ q) (hi : InAt K M H q new) :
    Grp K g M δ σ (upd H p (.dT (((acc ++ [(k, new)]).map (·.1)).zip ((qs ++ [q]).map V.ref)))) p (acc ++ [(k, new)]) (qs ++ [q]) := by
  have gr : Grow M H M (upd H p (.dT (((acc ++ [(k, new)]).map (·.1)).zip ((qs ++ [q]).map V.ref)))) := write_grow G.at_ nx_dT (G.own p (List.mem_cons_self ..)).1
  have ne : ∀ b, b ∈ qs ++ [q] → b ≠ p := fun b hb e => by
    rw [e] at hb
    rcases List.mem_append.mp hb with h | h
    · exact G.pn h
    · exact nq (by rw [List.mem_singleton.mp h]; exact List.mem_cons_self ..)
  refine ⟨by rw [List.length_append, List.length_append, G.len]; rfl, ?_, upd_same, fun b hb => ?_, fun i b e h1 h2 => ?_⟩
  · rw [List.nodup_append]
    refine ⟨G.nd, by simp, fun a ha b hb e => ?_⟩
    rw [List.mem_singleton.mp hb] at e
    exact nq (List.mem_cons_of_mem _ (by rw [← e]; exact ha))
  · rcases List.mem_cons.mp hb with e | hb
    · rw [e]
      exact G.own p (List.mem_cons_self ..)
    · rcases List.mem_append.mp hb with h | h
      · exact G.own b (List.mem_cons_of_mem _ h)
      · rw [List.mem_singleton.mp h]
        exact ⟨m, ho, no⟩
  · have hb := ne b (List.mem_of_getElem? h1)
    by_cases hlt : i < qs.length
    · rw [List.getElem?_append_left hlt] at h1
      rw [List.getElem?_append_left (by rw [G.len]; exact hlt)] at h2
      exact (G.inn i b e h1 h2).grow gr (upd_ne hb)
    · have hi' : i = qs.length := by
        have := (List.getElem?_eq_some_iff.mp h1).1
        rw [List.length_append, List.length_singleton] at this
        omega
      subst hi'
      rw [List.getElem?_append_right (Nat.le_refl _), Nat.sub_self] at h1
      rw [← G.len, List.getElem?_append_right (Nat.le_refl _), Nat.sub_self] at h2
      simp only [List.getElem?_cons_zero, Option.some.injEq] at h1 h2
      subst h1 h2
      exact hi.grow gr (upd_ne hb)
/-- an inner thing is changed -/
theorem Grp.set {o : HO} {i : Nat} {k : List Key} {d0 : D} (G : Grp K g M δ σ H p acc qs) (h1 : qs[i]? = some q) (h2 : acc[i]? = some (k, d0)) (hi : InAt K M (upd H q o) q d) : Grp K g M δ σ (upd H q o) p (acc.set i (k, d)) qs := by
  have hq : q ∈ qs := List.mem_of_getElem? h1
  obtain ⟨o0, ho, nx, _⟩ := G.there (List.mem_cons_of_mem p hq)
  have gr : Grow M H M (upd H q o) := write_grow ho nx (G.own q (List.mem_cons_of_mem _ hq)).1
  have hl : i < acc.length := (List.getElem?_eq_some_iff.mp h2).1
  refine ⟨by rw [List.length_set, G.len], G.nd, ?_, G.own, fun j b e h3 h4 => ?_⟩
  · rw [upd_ne (fun e => G.pn (by rw [e]; exact hq)), G.at_]
    have : (acc.set i (k, d)).map (·.1) = acc.map (·.1) := by
      rw [List.map_set]
      apply List.ext_getElem?
      intro j
      by_cases e : i = j
      · subst e
        rw [List.getElem?_set_self (by rw [List.length_map]; exact hl), List.getElem?_map, h2]
        rfl
      · rw [List.getElem?_set_ne e]
    rw [this]
  · rcases get_set h4 with ⟨e1, e2, _⟩ | ⟨n, h4⟩
    · subst e1 e2
      rw [h1] at h3
      cases h3
      exact hi
    · have hb : b ≠ q := fun e => by
        subst e
        have a1 := List.getElem?_eq_some_iff.mp h1
        have a2 := List.getElem?_eq_some_iff.mp h3
        exact n ((List.getElem_inj (h₀ := a2.1) (h₁ := a1.1) G.nd).mp (a2.2.trans a1.2.symm))
      exact (G.inn j b e h3 h4).grow gr (upd_ne hb)
/-! the first entry of a key -/
def idxG (k : List Key) (acc : Acc) : Nat := acc.findIdx fun e => decide (e.1 = k)
def ensG (k : List Key) (new : D) (acc : Acc) : Acc := if idxG k acc < acc.length then acc else acc ++ [(k, new)]
theorem valV_idx {k : List Key} : ∀ {acc : Acc} {qs : List Addr}, acc.length = qs.length → (valV ((acc.map (·.1)).zip (qs.map V.ref)) k = none ∧ idxG k acc = acc.length) ∨ ∃ q e, qs[idxG k acc]? = some q ∧ acc[idxG k acc]? = some e ∧ e.1 = k ∧ valV ((acc.map (·.1)).zip (qs.map V.ref)) k = some (.ref q)
  | [], [], _ => .inl ⟨rfl, rfl⟩
  | [], _ :: _, h => by simp at h
  | _ :: _, [], h => by simp at h
  | e :: acc, q :: qs, h => by
    show (valV ((e.1, V.ref q) :: (acc.map (·.1)).zip (qs.map V.ref)) k = none ∧ _) ∨ ∃ q' e', _ ∧ _ ∧ _ ∧ valV ((e.1, V.ref q) :: (acc.map (·.1)).zip (qs.map V.ref)) k = _
    by_cases c : e.1 = k
    · have hi : idxG k (e :: acc) = 0 := by unfold idxG; rw [List.findIdx_cons]; simp [c]
      refine .inr ⟨q, e, by rw [hi]; rfl, by rw [hi]; rfl, c, ?_⟩
      rw [valV_pos c]
    · have hi : idxG k (e :: acc) = idxG k acc + 1 := by unfold idxG; rw [List.findIdx_cons]; simp [c]
      rw [valV_neg c, hi]
      rcases valV_idx (k := k) (acc := acc) (qs := qs) (by simpa using h) with ⟨h1, h2⟩ | ⟨q', e', h1, h2, h3, h4⟩
      · exact .inl ⟨h1, by rw [h2, List.length_cons]⟩
      · exact .inr ⟨q', e', by simpa using h1, by simpa using h2, h3, h4⟩
end
end Dn

set_option Elab.async false
set_option linter.all false
set_option maxRecDepth 100000
set_option maxHeartbeats 4000000
namespace Dn
open PySem PySem.Spec PyProof.Rows L2
def keyD : D → Option Key
  | .int i => some (.inl i)
  | .str x => some (.inr x)
  | _ => none
def keysD : List D → Option (List Key)
  | [] => some []
  | d :: ds => match keyD d, keysD ds with
    | some k, some ks => some (k :: ks)
    | _, _ => none
section
variable {K : Fr} {g : GX} {M M' : Ad} {δ δ' : DEnv} {σ σ' : Sg} {H H' : Hp} {p q : Addr} {acc : Acc} {qs : List Addr} {d : D}
theorem keyD_rep {d : D} {v : V} {k : Key} (r : Rep K M H d v) (e : keyD d = some k) : v = kV k := by
  cases d with
  | int i =>
    cases e
    exact r
  | str x =>
    cases e
    exact r
  | _ => cases e
theorem keysD_reps : ∀ {ds : List D} {vs : List V} {ks : List Key}, Reps K M H ds vs → keysD ds = some ks → vs = ks.map kV
  | [], vs, ks, r, e => by
    cases e
    exact r
  | d :: ds, vs, ks, r, e => by
    obtain ⟨v, w, e1, r1, r2⟩ := r
    unfold keysD at e
    cases h1 : keyD d with
    | none => rw [h1] at e; cases e
    | some k =>
      cases h2 : keysD ds with
      | none => rw [h1, h2] at e; cases e
      | some ks' =>
        rw [h1, h2] at e
        cases e
        rw [e1, keyD_rep r1 h1, keysD_reps r2 h2]
        rfl
def innG (P : D → Prop) (acc : Acc) (j : Nat) : Prop := match acc[j]? with
  | some e => P e.2
  | none => False
theorem innG_of {P : D → Prop} {j : Nat} (h : innG P acc j) : ∃ e, acc[j]? = some e ∧ P e.2 := by
  unfold innG at h
  split at h
  · rename_i e he
    exact ⟨e, he, h⟩
  · exact h.elim
theorem ens_sound {W : WX} {kE : DAx} {i : Nat} {o0 : HO} {new : D} {R : List Key → DEnv → Prop} {Q : VK} (E : EnvOk K g M δ σ H) (G : Grp K g M δ σ H p acc qs) (hi : δ[i]? = some (.val (.at p)))
    (hk : kE δ (fun kd δ2 => onSome (fun k => few acc.length ∧ few k.length ∧ R k δ2) (keysD kd)) noX) (nt : Nt o0) (nd : ∀ kvs, o0 ≠ .dT kvs) (hnew : ∀ (M : Ad) (H : Hp) (q : Addr), H q = some o0 → InAt K M H q new)
    (kk : ∀ (k : List Key) (M' : Ad) (δ' : DEnv) (H' : Hp) (qs' : List Addr) (q : Addr) (e : List Key × D), R k δ' → EnvOk K g M' δ' σ H' → Grow M H M' H' → Kin δ δ' → Grp K g M' δ' σ H' p (ensG k new acc) qs' → qs'[idxG k acc]? = some q → (ensG k new acc)[idxG k acc]? = some e → e.1 = k → Q (.ref q) H') :
    tDSetT (tVar i) (tTup (cA K g W kE)) (fun _ H Q => ∀ q, H q = none → Q (.ref q) (upd H q o0)) σ H Q := by
  obtain ⟨v, hv, rv⟩ := E.val hi
  have rv : v = .ref p := rv
  subst rv
  refine ⟨.ref p, hv, p, rfl, .inr ⟨_, .inl G.at_⟩, M, δ, _, noX, E, hk, fun kd δ2 vs H1 h1 E1 g1 r1 => ?_, noX_ok⟩
  obtain ⟨k, ek, hf, hfk, hR⟩ := onSome_of h1
  have ev := keysD_reps r1 ek
  subst ev
  refine ⟨by rw [List.length_map]; exact few_line hfk, fun b hb => ?_⟩
  have s1 := same_upd (o := .tup (k.map kV)) hb
  have E2 := E1.same s1
  have G2 := (G.stp g1).stp (Stp.same s1)
  have gr2 : Grow M H M (upd H1 b (.tup (k.map kV))) := g1.g.trans (Grow.of_same s1)
  refine fun q hq => ?_
  have hbq : b ≠ q := fun e => by
    rw [← e, upd_same] at hq
    cases hq
  have E3 := E2.and (o := o0) hq nt
  have G3 := G2.and (o := o0) hq
  have gr3 : Grow M H (M.and q) (upd (upd H1 b (.tup (k.map kV))) q o0) := gr2.trans (Grow.and hq)
  have lz : ((acc.map (·.1)).zip (qs.map V.ref)).length < sizeLine := by
    rw [List.length_zip, List.length_map, List.length_map, ← G.len, Nat.min_self]
    exact few_lt hf
  have nq : q ∉ p :: qs := fun hm => by
    obtain ⟨o, ho, _, _⟩ := G2.there hm
    rw [hq] at ho
    cases ho
  refine ⟨_, k, b, G3.at_, rfl, by rw [upd_ne hbq]; exact upd_same, lz, fun v hv => ?_, fun hn => ?_⟩
  · rcases valV_idx (k := k) G.len with ⟨h1, _⟩ | ⟨q', e, h1, h2, h3, h4⟩
    · rw [h1] at hv
      cases hv
    · rw [h4] at hv
      cases hv
      have hlt : idxG k acc < acc.length := (List.getElem?_eq_some_iff.mp h2).1
      have ee : ensG k new acc = acc := by unfold ensG; rw [if_pos hlt]
      exact kk k _ δ2 _ qs q' e hR E3 gr3 g1.k (by rw [ee]; exact G3) h1 (by rw [ee]; exact h2) h3
  · rcases valV_idx (k := k) G.len with ⟨h1, h2⟩ | ⟨q', e, h1, h2, h3, h4⟩
    · have ee : ensG k new acc = acc ++ [(k, new)] := by unfold ensG; rw [h2, if_neg (Nat.lt_irrefl _)]
      have no3 : NotOwn δ2 σ q := notOwn_new E2 hq
      have G4 := G3.push (k := k) (new := new) upd_same nq (E2.h0 hq) (.inr rfl) no3 (hnew _ _ _ upd_same)
      have ep : putK ((acc.map (·.1)).zip (qs.map V.ref)) k (.ref q) = ((acc ++ [(k, new)]).map (·.1)).zip ((qs ++ [q]).map V.ref) := by
        rw [putK_new _ h1, List.map_append, List.map_append, List.zip_append (by rw [List.length_map, List.length_map, G.len])]
        rfl
      rw [ep]
      have own3 := G3.own p (List.mem_cons_self ..)
      refine kk k _ δ2 _ _ q (k, new) hR (E3.write G3.at_ nx_dT nt_dT own3.1 own3.2.1 own3.2.2) (gr3.trans (write_grow G3.at_ nx_dT own3.1)) g1.k (by rw [ee]; exact G4) ?_ ?_ rfl
      · rw [h2, G.len, List.getElem?_append_right (Nat.le_refl _), Nat.sub_self]
        rfl
      · rw [ee, h2, List.getElem?_append_right (Nat.le_refl _), Nat.sub_self]
        rfl
    · rw [h4] at hn
      cases hn
/-- what one had in hand is let go: it is changed no more -/
theorem EnvOk.drop (E : EnvOk K g M δ σ H) (L : List Addr) (hL : ∀ b ∈ L, g.H0 b = none ∧ NotOwn δ σ b) : EnvOk K g (fun a => M a ∧ a ∉ L) δ σ H := by
  have less : ∀ a, (M a ∧ a ∉ L) → M a := fun a h => h.1
  refine ⟨E.len, fun a m => E.dom a m.1, fun a h => ⟨E.up a h, fun z => E.d0 a h (hL a z).1⟩, fun a m => E.new a m.1, E.d0, E.pres, fun j c v h1 h2 => ?_, E.apart, E.ion⟩
  have q := E.cell j c v h1 h2
  cases c with
  | emp => trivial
  | val d =>
    cases v with
    | none => exact q
    | some v => exact Rep.less q less
  | own d =>
    obtain ⟨p', ds', vs', e, h3, O'⟩ := E.own h1
    subst e
    rw [h2] at h3
    cases h3
    exact ⟨⟨O'.m, fun z => (hL _ z).2 j _ h1 h2⟩, O'.from_, vs', O'.at_, O'.reps.less less⟩
theorem Grp.rep (G : Grp K g M δ σ H p acc qs) : Rep K (fun a => M a ∧ a ∉ p :: qs) H (.dct (acc.map (·.1)) (acc.map (·.2))) (.ref p) := by
  have less : ∀ a, (M a ∧ a ∉ p :: qs) → M a := fun a h => h.1
  refine ⟨p, qs.map V.ref, rfl, fun m => m.2 (List.mem_cons_self ..), G.at_, by rw [List.length_map, List.length_map, G.len], Reps.of_get (by rw [List.length_map, List.length_map, G.len]) fun i d v h1 h2 => ?_⟩
  rw [List.getElem?_map] at h1 h2
  cases e1 : acc[i]? with
  | none => rw [e1] at h1; cases h1
  | some e =>
    cases e2 : qs[i]? with
    | none => rw [e2] at h2; cases h2
    | some q =>
      rw [e1] at h1
      rw [e2] at h2
      cases h1
      cases h2
      have hi := G.inn i q e e2 e1
      have nm : ¬ (M q ∧ q ∉ p :: qs) := fun m => m.2 (List.mem_cons_of_mem _ (List.mem_of_getElem? e2))
      obtain ⟨kk, d⟩ := e
      cases d with
      | lst ds =>
        obtain ⟨us, a, b⟩ := hi
        exact ⟨q, us, rfl, ⟨nm, a⟩, b.less less⟩
      | dck ks ds =>
        obtain ⟨us, a, b, c⟩ := hi
        exact ⟨q, us, rfl, nm, a, b, c.less less⟩
      | _ => exact hi.elim
/-- the end of the loop -/
theorem Grp.fin {i : Nat} (G : Grp K g M δ σ H p acc qs) (E : EnvOk K g M δ σ H) (hi : δ[i]? = some (.val (.at p))) (so : slotOk i δ) :
    ∃ M', EnvOk K g M' (δ.set i (.val (.dct (acc.map (·.1)) (acc.map (·.2))))) σ H ∧ Grow M H M' H := by
  obtain ⟨v, hv, rv⟩ := E.val hi
  have rv : v = .ref p := rv
  subst rv
  have E1 := (E.drop (p :: qs) fun b hb => (G.own b hb).2).setVal G.rep so
  have es : σ.set i (some (.ref p)) = σ := by
    apply List.ext_getElem?
    intro j
    by_cases e : i = j
    · subst e
      rw [List.getElem?_set_self (List.getElem?_eq_some_iff.mp hv).1, hv]
    · rw [List.getElem?_set_ne e]
  rw [es] at E1
  exact ⟨_, E1, ⟨fun b m => .inl m.1, fun _ _ _ h _ => h, fun _ h => h, fun _ _ _ h => h⟩⟩
theorem NotOwn.set {i : Nat} {b : Addr} {d : D} {v : Option V} (no : NotOwn δ σ b) : NotOwn (δ.set i (.val d)) (σ.set i v) b := fun j e h1 h2 => by
  rcases get_set h1 with ⟨_, e1, _⟩ | ⟨n, h1⟩
  · cases e1
  · rcases get_set h2 with ⟨e2, _, _⟩ | ⟨_, h2⟩
    · exact n e2
    · exact no j e h1 h2
end
end Dn

set_option Elab.async false
set_option linter.all false
set_option maxRecDepth 100000
set_option maxHeartbeats 4000000
namespace Dn
open PySem PySem.Spec PyProof.Rows L2
/-! ### x = {}; for .. in ..: x.setdefault((a, ..), []).append(e) -/
def grpB (gt : DGt) (kE : DAx) (vE : DEx) (i : Nat) (p : Addr) (Q : Acc → DEnv → Prop) : List D → Acc → DEnv → Prop
  | [], acc, δ => Q acc δ
  | d :: ds, acc, δ => gt d δ fun δ1 => δ1[i]? = some (.val (.at p)) ∧ kE δ1 (fun kd δ2 => onSome (fun k => few acc.length ∧ few k.length ∧
      innG (onLst fun us => few us.length ∧ vE δ2 (fun v δ3 => grpB gt kE vE i p Q ds ((ensG k (.lst []) acc).set (idxG k acc) (k, .lst (us ++ [v]))) δ3) noX) (ensG k (.lst []) acc) (idxG k acc)) (keysD kd)) noX
def endG (i : Nat) (p : Addr) (s : DSt) (k : DK) (acc : Acc) (δ : DEnv) : Prop := δ[i]? = some (.val (.at p)) ∧ slotOk i δ ∧ s k (δ.set i (.val (.dct (acc.map (·.1)) (acc.map (·.2)))))
def blkB (i : Nat) (it : DIx) (gt : DGt) (kE : DAx) (vE : DEx) (s : DSt) : DSt := fun k δ => slotOk i δ ∧ ∀ p, it (δ.set i (.val (.at p))) (fun ds δ1 => grpB gt kE vE i p (endG i p s k) ds [] δ1) k.ex
section
variable {X : Cx} {g : GX} {W : WX}
theorem lst_some {P : List D → Prop} {d : D} (h : onLst P d) : ∃ ds, d = .lst ds ∧ P ds := by
  cases d with
  | lst ds => exact ⟨ds, rfl, h⟩
  | _ => exact h.elim
theorem dss_blkB {i : Nat} {x : Str} {px px2 p1 p2 p3 p4 p5 p6 p7 p8 p9 p10 : Pos} {x1 : Nat} {tg iter e : Expr} {kes : List Expr} {rest : List Stmt} {it : DIx} {ts : List Nat} {gt : DGt} {kE : DAx} {vE : DEx} {s : DSt}
    (hN : X.N.Nodup) (hi : X.N[i]? = some x) (hx : Loc X.env.scope x) (hp : PassesOwn (model X.prog X.w) X.A X.env X.xe) (hc : X.calm = true) (hu : X.A.units + 1 < cLine)
    (hi' : DI X g W tg iter it) (hg : DG X g tg ts gt) (hv : PE X (.Name x px2) (tVar i)) (hk : DA X g W kes kE) (he : DE X g W e vE) (hr : DSS X g W rest s)
    (m : M2 X (.Name x px2) "setdefault" p5 (.Tuple kes x1 p6) (.List [] p7) p8)
    (hf : X.fn x = true ∨ X.env.scope.names.lookup x = some .local := by first | exact .inl rfl | exact .inr rfl | assumption)
    (hsw : swapsWith (.Dict [] [] p1) (some (.Name x px)) p2.line X.env = pure false := by rfl)
    (hs : ∀ x, foldedSetIterable iter X.env x = pure x := by intro _; rfl)
    (hbase : attributeBase (.Call (.Attribute (.Name x px2) "setdefault" p5) [.Tuple kes x1 p6, .List [] p7] [] p8) "append" X.env (eval (.Call (.Attribute (.Name x px2) "setdefault" p5) [.Tuple kes x1 p6, .List [] p7] [] p8) X.env) = eval (.Call (.Attribute (.Name x px2) "setdefault" p5) [.Tuple kes x1 p6, .List [] p7] [] p8) X.env := by rfl)
    (hfew : ((backTo p9 (starEach [e] X.env)).all (fun x => !x.1) && (backToKw p9 (keywordEach [] X.env)).all (fun x => x.1.isSome) && decide ([e].length + ([] : List Keyword).length + (if ([] : List Keyword).isEmpty then 0 else 1) < 30)) = true := by rfl)
    (hline : (p4.endLine == p9.line) = true := by rfl) (hst : starEach [e] X.env = (false, eval e X.env) :: starEach [] X.env := by rfl) (hplain : (backTo p9 (starEach [] X.env)).any (·.1) = false := by rfl)
    (hsw2 : swapsWith (.Call (.Attribute (.Call (.Attribute (.Name x px2) "setdefault" p5) [.Tuple kes x1 p6, .List [] p7] [] p8) "append" p4) [e] [] p9) none p3.line X.env = pure false := by rfl) :
    DSS X g W (.Assign [.Name x px] (.Dict [] [] p1) p2 :: .For tg iter [.Expr (.Call (.Attribute (.Call (.Attribute (.Name x px2) "setdefault" p5) [.Tuple kes x1 p6, .List [] p7] [] p8) "append" p4) [e] [] p9) p3] [] p10 :: rest) (blkB i it gt kE vE s) := by
  have hnew : PE X (.List [] p7) (fun _ H Q => ∀ q, H q = none → Q (.ref q) (upd H q (.lst []))) := (pe_lst pa_nil).imp fun σ H Q q => ⟨Nat.zero_le _, q⟩
  have hobj := pe_dsetdT hu hv (pe_tup (x1 := x1) (pos := p6) hk.pa) hnew m
  have hbody := ps_expr (pe_bm PySem.F.plainAttrs_list PySem.F.slot_list_append PySem.F.type_list_append mt_append hobj (pa_cons he.pe pa_nil hst) hbase hfew hline hst hplain) hsw2
  refine ⟨(pss_cons (ps_set hN hi hx pe_dnewT hsw hf) (pss_cons (ps_for (pos := p10) hp hc hi'.pi hg.pg (pss_one hbody) hs) hr.pss)).imp fun T σ H q => ?_⟩
  obtain ⟨M, δ, k, E, ⟨so, h⟩, S⟩ := q
  refine fun p hp0 => ?_
  have E2 := (E.and (o := .dT []) hp0).setVal (d := .at p) (v := .ref p) rfl so
  have G0 : Grp X.K g (M.and p) (δ.set i (.val (.at p))) (σ.set i (some (.ref p))) (upd H p (.dT [])) p [] [] :=
    ⟨rfl, List.nodup_nil, upd_same, fun b hb => by
      rw [List.mem_singleton.mp hb]
      exact ⟨.inr rfl, E.h0 hp0, (notOwn_new E hp0).set⟩, fun i q e h1 _ => by simp at h1⟩
  have S1 := S.grow (Grow.and (o := .dT []) hp0)
  refine ⟨_, _, _, k.ex, E2, h p, fun ds δ1 H1 J h1 E1 g1 wk => ?_, S1.exok⟩
  refine ⟨fun n m σ' H' => ∃ M' δ' acc qs, EnvOk X.K g M' δ' σ' H' ∧ Grow (M.and p) H1 M' H' ∧ Grp X.K g M' δ' σ' H' p acc qs ∧ grpB gt kE vE i p (endG i p s k) (ds.drop n) acc δ' ∧ m = ds.length - n,
    ⟨ds.length, _, δ1, [], [], E1, Grow.refl _ _, G0.stp g1, h1, rfl⟩, ?_⟩
  rintro n m' σ2 H2 ⟨M2, δ2, acc, qs, E2', g2, G2, h2, rfl⟩
  cases e : ds[n]? with
  | none =>
    have hn : ds.length ≤ n := List.getElem?_eq_none_iff.mp e
    refine .inl ⟨wk.stop M2 H2 g2 n hn, ?_⟩
    rw [List.drop_eq_nil_of_le hn] at h2
    obtain ⟨e1, e2, e3⟩ := h2
    obtain ⟨M3, E3, g3⟩ := G2.fin E2' e1 e2
    exact ⟨M3, _, k, E3, e3, S1.grow ((g1.g.trans g2).trans g3)⟩
  | some d =>
    have hn : n < ds.length := (List.getElem?_eq_some_iff.mp e).1
    have ed : ds.drop n = d :: ds.drop (n + 1) := by
      rw [List.drop_eq_getElem_cons hn, (List.getElem?_eq_some_iff.mp e).2]
    obtain ⟨hgo, hy⟩ := wk.go M2 H2 g2 E2'.dom n d e
    rw [ed] at h2
    refine .inr ⟨hgo, fun σ' H' => ∃ M' δ' acc qs, EnvOk X.K g M' δ' σ' H' ∧ Grow (M.and p) H1 M' H' ∧ Grp X.K g M' δ' σ' H' p acc qs ∧ grpB gt kE vE i p (endG i p s k) (ds.drop (n + 1)) acc δ',
      fun σ' H' ⟨M', δ', acc, qs, a, b, c, c2⟩ => ⟨ds.length - (n + 1), by omega, M', δ', acc, qs, a, b, c, c2, rfl⟩, fun x H3 yx => ?_⟩
    obtain ⟨s3, r3⟩ := hy x H3 yx
    refine ⟨M2, δ2, d, _, E2'.same s3, r3, h2, fun δ4 σ4 ⟨h4, h5⟩ E4 t4 => ?_⟩
    have G4 := (G2.stp (Stp.same s3)).tgt t4
    have g4 : Grow (M.and p) H1 M2 H3 := g2.trans (Grow.of_same s3)
    show tDSetT (tVar i) (tTup (cA X.K g W kE)) (fun _ H Q => ∀ q, H q = none → Q (.ref q) (upd H q (.lst []))) σ4 H3 (fun x H1 => tyV X.K "list" x H1 ∧ tCons (cE X.K g W vE) tNil σ4 H1 fun xs H2 => rAppend x xs H2 _)
    refine ens_sound (o0 := .lst []) (new := .lst []) E4 G4 h4 h5 nt_lst (fun _ z => nomatch z) (fun _ _ _ z => ⟨[], z, rfl⟩) fun kk M5 δ5 H5 qs5 q en hR E5 g5 k5 G5 hq hen hek => ?_
    obtain ⟨en', he', hR⟩ := innG_of hR
    rw [hen] at he'
    cases he'
    obtain ⟨kd, dd⟩ := en
    cases hek
    obtain ⟨us, eu, hf, hR⟩ := lst_some hR
    have eu : dd = .lst us := eu
    subst eu
    obtain ⟨ws, hw, _⟩ := G5.inn _ _ _ hq hen
    refine ⟨.inl ⟨rfl, ws, .of hw⟩, M5, δ5, _, noX, E5, hR, fun v δ6 w H6 h6 E6 g6 r6 => ?_, noX_ok⟩
    have G6 := G5.stp g6
    obtain ⟨ws6, hw6, rw6⟩ := G6.inn _ _ _ hq hen
    have own6 := G6.own q (List.mem_cons_of_mem _ (List.mem_of_getElem? hq))
    refine ⟨q, ws6, w, rfl, rfl, hw6, by rw [← rw6.length]; exact few_lt hf, ?_⟩
    have gw := write_grow (M := M5) (o := .lst (ws6 ++ [w])) hw6 nx_lst own6.1
    have hin : InAt X.K M5 (upd H6 q (.lst (ws6 ++ [w]))) q (.lst (us ++ [v])) := ⟨_, upd_same, (rw6.append (show Reps X.K M5 H6 [v] [w] from ⟨w, [], rfl, r6, rfl⟩)).grow gw⟩
    exact ⟨M5, δ6, _, qs5, E6.write hw6 nx_lst nt_lst own6.1 own6.2.1 own6.2.2, ((g4.trans g5).trans g6.g).trans gw, G6.set hq hen hin, h6⟩
end
end Dn

set_option Elab.async false
set_option linter.all false
set_option maxRecDepth 100000
set_option maxHeartbeats 4000000
namespace Dn
open PySem PySem.Spec PyProof.Rows L2
/-! ### x = {}; for .. in ..: x.setdefault((a, ..), {})[n] = e -/
def hasK (k : Key) (ks : List Key) : Bool := ks.any fun a => decide (a = k)
def putKs (k : Key) (ks : List Key) : List Key := if hasK k ks = true then ks else ks ++ [k]
def putDs {α : Type} (k : Key) (d : α) (ks : List Key) (ds : List α) : List α := if hasK k ks = true then (ks.zip ds).map (fun e => if e.1 = k then d else e.2) else ds ++ [d]
theorem zip_key {k : Key} {v : V} : ∀ {ks : List Key} {us : List V}, ks.length = us.length → ((ks.zip us).map fun kv => if kv.1 = k then (kv.1, v) else kv) = ks.zip ((ks.zip us).map fun e => if e.1 = k then v else e.2)
  | [], [], _ => rfl
  | [], _ :: _, h => by simp at h
  | _ :: _, [], h => by simp at h
  | a :: ks, u :: us, h => by
    rw [List.zip_cons_cons, List.map_cons, List.map_cons, List.zip_cons_cons, zip_key (by simpa using h)]
    congr 1
    by_cases e : a = k
    · simp [e]
    · simp [e]
theorem any_zip {k : Key} : ∀ {ks : List Key} {us : List V}, ks.length = us.length → ((ks.zip us).any fun kv => decide (kv.1 = k)) = hasK k ks
  | [], [], _ => rfl
  | [], _ :: _, h => by simp at h
  | _ :: _, [], h => by simp at h
  | a :: ks, u :: us, h => by
    rw [List.zip_cons_cons, List.any_cons, any_zip (by simpa using h)]
    rfl
theorem putK_zip {k : Key} {v : V} {ks : List Key} {us : List V} (h : ks.length = us.length) : putK (ks.zip us) k v = (putKs k ks).zip (putDs k v ks us) := by
  unfold putK putKs putDs
  rw [any_zip h]
  by_cases e : hasK k ks = true
  · rw [if_pos e, if_pos e, if_pos e, zip_key h]
  · rw [if_neg e, if_neg e, if_neg e, List.zip_append h]
    rfl
theorem putDs_len {α : Type} {k : Key} {d : α} {ks : List Key} {ds : List α} (h : ks.length = ds.length) : (putKs k ks).length = (putDs k d ks ds).length := by
  unfold putKs putDs
  by_cases e : hasK k ks = true
  · rw [if_pos e, if_pos e, List.length_map, List.length_zip, h, Nat.min_self]
  · rw [if_neg e, if_neg e, List.length_append, List.length_append, h]
    rfl
section
variable {K : Fr} {M : Ad} {H : Hp}
theorem putDs_reps {k : Key} {d : D} {v : V} {ks : List Key} {ds : List D} {us : List V} (h : ks.length = us.length) (r : Reps K M H ds us) (rv : Rep K M H d v) : Reps K M H (putDs k d ks ds) (putDs k v ks us) := by
  have hl := r.length
  unfold putDs
  by_cases e : hasK k ks = true
  · rw [if_pos e, if_pos e]
    refine Reps.of_get (by rw [List.length_map, List.length_map, List.length_zip, List.length_zip, hl]) fun i d' v' h1 h2 => ?_
    rw [List.getElem?_map] at h1 h2
    cases e1 : (ks.zip ds)[i]? with
    | none => rw [e1] at h1; cases h1
    | some a =>
      cases e2 : (ks.zip us)[i]? with
      | none => rw [e2] at h2; cases h2
      | some b =>
        rw [e1] at h1
        rw [e2] at h2
        obtain ⟨a1, a2⟩ := List.getElem?_zip_eq_some.mp e1
        obtain ⟨b1, b2⟩ := List.getElem?_zip_eq_some.mp e2
        have ek : a.1 = b.1 := Option.some.inj (a1.symm.trans b1)
        simp only [Option.map_some, Option.some.injEq] at h1 h2
        rw [← h1, ← h2, ek]
        by_cases c : b.1 = k
        · rw [if_pos c, if_pos c]
          exact rv
        · rw [if_neg c, if_neg c]
          obtain ⟨w, hw, rw'⟩ := r.get a2
          rw [b2] at hw
          cases hw
          exact rw'
  · rw [if_neg e, if_neg e]
    exact r.append ⟨v, [], rfl, rv, rfl⟩
end
def onDck (P : List Key → List D → Prop) : D → Prop
  | .dck ks ds => P ks ds
  | _ => False
theorem dck_some {P : List Key → List D → Prop} {d : D} (h : onDck P d) : ∃ ks ds, d = .dck ks ds ∧ P ks ds := by
  cases d with
  | dck ks ds => exact ⟨ks, ds, rfl, h⟩
  | _ => exact h.elim
def grpA (gt : DGt) (kE : DAx) (nE vE : DEx) (i : Nat) (p : Addr) (Q : Acc → DEnv → Prop) : List D → Acc → DEnv → Prop
  | [], acc, δ => Q acc δ
  | d :: ds, acc, δ => gt d δ fun δ1 => vE δ1 (fun v δ2 => δ2[i]? = some (.val (.at p)) ∧ kE δ2 (fun kd δ3 => onSome (fun k => few acc.length ∧ few k.length ∧
      innG (onDck fun ks us => few ks.length ∧ nE δ3 (fun n δ4 => onSome (fun kn => grpA gt kE nE vE i p Q ds ((ensG k (.dck [] []) acc).set (idxG k acc) (k, .dck (putKs kn ks) (putDs kn v ks us))) δ4) (keyD n)) noX) (ensG k (.dck [] []) acc) (idxG k acc)) (keysD kd)) noX) noX
def blkA (i : Nat) (it : DIx) (gt : DGt) (kE : DAx) (nE vE : DEx) (s : DSt) : DSt := fun k δ => slotOk i δ ∧ ∀ p, it (δ.set i (.val (.at p))) (fun ds δ1 => grpA gt kE nE vE i p (endG i p s k) ds [] δ1) k.ex
section
variable {X : Cx} {g : GX} {W : WX}
theorem dss_blkA {i : Nat} {x : Str} {px px2 p1 p2 p3 p4 p5 p6 p7 p8 p10 : Pos} {x1 : Nat} {tg iter e n : Expr} {kes : List Expr} {rest : List Stmt} {it : DIx} {ts : List Nat} {gt : DGt} {kE : DAx} {nE vE : DEx} {s : DSt}
    (hN : X.N.Nodup) (hi : X.N[i]? = some x) (hx : Loc X.env.scope x) (hp : PassesOwn (model X.prog X.w) X.A X.env X.xe) (hc : X.calm = true) (hu : X.A.units + 1 < cLine)
    (hi' : DI X g W tg iter it) (hg : DG X g tg ts gt) (hv : PE X (.Name x px2) (tVar i)) (hk : DA X g W kes kE) (hn : DE X g W n nE) (he : DE X g W e vE) (hr : DSS X g W rest s)
    (m : M2 X (.Name x px2) "setdefault" p5 (.Tuple kes x1 p6) (.Dict [] [] p7) p8)
    (hf : X.fn x = true ∨ X.env.scope.names.lookup x = some .local := by first | exact .inl rfl | exact .inr rfl | assumption)
    (hsw : swapsWith (.Dict [] [] p1) (some (.Name x px)) p2.line X.env = pure false := by rfl)
    (hs : ∀ x, foldedSetIterable iter X.env x = pure x := by intro _; rfl)
    (hsw2 : swapsWith e (some (.Subscript (.Call (.Attribute (.Name x px2) "setdefault" p5) [.Tuple kes x1 p6, .Dict [] [] p7] [] p8) n p4)) p3.line X.env = pure false := by rfl) :
    DSS X g W (.Assign [.Name x px] (.Dict [] [] p1) p2 :: .For tg iter [.Assign [.Subscript (.Call (.Attribute (.Name x px2) "setdefault" p5) [.Tuple kes x1 p6, .Dict [] [] p7] [] p8) n p4] e p3] [] p10 :: rest) (blkA i it gt kE nE vE s) := by
  have hobj := pe_dsetdT hu hv (pe_tup (x1 := x1) (pos := p6) hk.pa) (pe_dnewK (pos := p7)) m
  have hbody := ps_dput hu hobj hn.pe he.pe hsw2
  refine ⟨(pss_cons (ps_set hN hi hx pe_dnewT hsw hf) (pss_cons (ps_for (pos := p10) hp hc hi'.pi hg.pg (pss_one hbody) hs) hr.pss)).imp fun T σ H q => ?_⟩
  obtain ⟨M, δ, k, E, ⟨so, h⟩, S⟩ := q
  refine fun p hp0 => ?_
  have E2 := (E.and (o := .dT []) hp0).setVal (d := .at p) (v := .ref p) rfl so
  have G0 : Grp X.K g (M.and p) (δ.set i (.val (.at p))) (σ.set i (some (.ref p))) (upd H p (.dT [])) p [] [] :=
    ⟨rfl, List.nodup_nil, upd_same, fun b hb => by
      rw [List.mem_singleton.mp hb]
      exact ⟨.inr rfl, E.h0 hp0, (notOwn_new E hp0).set⟩, fun i q e h1 _ => by simp at h1⟩
  have S1 := S.grow (Grow.and (o := .dT []) hp0)
  refine ⟨_, _, _, k.ex, E2, h p, fun ds δ1 H1 J h1 E1 g1 wk => ?_, S1.exok⟩
  refine ⟨fun n m σ' H' => ∃ M' δ' acc qs, EnvOk X.K g M' δ' σ' H' ∧ Grow (M.and p) H1 M' H' ∧ Grp X.K g M' δ' σ' H' p acc qs ∧ grpA gt kE nE vE i p (endG i p s k) (ds.drop n) acc δ' ∧ m = ds.length - n,
    ⟨ds.length, _, δ1, [], [], E1, Grow.refl _ _, G0.stp g1, h1, rfl⟩, ?_⟩
  rintro n m' σ2 H2 ⟨M2, δ2, acc, qs, E2', g2, G2, h2, rfl⟩
  cases e : ds[n]? with
  | none =>
    have hn : ds.length ≤ n := List.getElem?_eq_none_iff.mp e
    refine .inl ⟨wk.stop M2 H2 g2 n hn, ?_⟩
    rw [List.drop_eq_nil_of_le hn] at h2
    obtain ⟨e1, e2, e3⟩ := h2
    obtain ⟨M3, E3, g3⟩ := G2.fin E2' e1 e2
    exact ⟨M3, _, k, E3, e3, S1.grow ((g1.g.trans g2).trans g3)⟩
  | some d =>
    have hn : n < ds.length := (List.getElem?_eq_some_iff.mp e).1
    have ed : ds.drop n = d :: ds.drop (n + 1) := by
      rw [List.drop_eq_getElem_cons hn, (List.getElem?_eq_some_iff.mp e).2]
    obtain ⟨hgo, hy⟩ := wk.go M2 H2 g2 E2'.dom n d e
    rw [ed] at h2
    refine .inr ⟨hgo, fun σ' H' => ∃ M' δ' acc qs, EnvOk X.K g M' δ' σ' H' ∧ Grow (M.and p) H1 M' H' ∧ Grp X.K g M' δ' σ' H' p acc qs ∧ grpA gt kE nE vE i p (endG i p s k) (ds.drop (n + 1)) acc δ',
      fun σ' H' ⟨M', δ', acc, qs, a, b, c, c2⟩ => ⟨ds.length - (n + 1), by omega, M', δ', acc, qs, a, b, c, c2, rfl⟩, fun x H3 yx => ?_⟩
    obtain ⟨s3, r3⟩ := hy x H3 yx
    refine ⟨M2, δ2, d, _, E2'.same s3, r3, h2, fun δ4 σ4 h4 E4 t4 => ?_⟩
    have G4 := (G2.stp (Stp.same s3)).tgt t4
    have g4 : Grow (M.and p) H1 M2 H3 := g2.trans (Grow.of_same s3)
    refine ⟨M2, δ4, _, noX, E4, h4, fun v δv w Hv ⟨h5, h6⟩ Ev gv rv => ?_, noX_ok⟩
    have Gv := G4.stp gv
    show tDSetT (tVar i) (tTup (cA X.K g W kE)) (fun _ H Q => ∀ q, H q = none → Q (.ref q) (upd H q (.dK []))) σ4 Hv (fun x H2 => cE X.K g W nE σ4 H2 fun y H3 => ∃ a H4, x = .ref a ∧ DPut H3 a y w H4 ∧ _)
    refine ens_sound (o0 := .dK []) (new := .dck [] []) Ev Gv h5 h6 nt_dK (fun _ z => nomatch z) (fun _ _ _ z => ⟨[], z, rfl, rfl⟩) fun kk M5 δ5 H5 qs5 q en hR E5 g5 k5 G5 hq hen hek => ?_
    obtain ⟨en', he', hR⟩ := innG_of hR
    rw [hen] at he'
    cases he'
    obtain ⟨kd, dd⟩ := en
    cases hek
    obtain ⟨ks, us, eu, hf, hR⟩ := dck_some hR
    have eu : dd = .dck ks us := eu
    subst eu
    refine ⟨M5, δ5, _, noX, E5, hR, fun nd δ6 u H6 h7 E6 g6 r6 => ?_, noX_ok⟩
    obtain ⟨kn, ekn, h7⟩ := onSome_of h7
    have eu := keyD_rep r6 ekn
    subst eu
    have G6 := G5.stp g6
    obtain ⟨ws6, hw6, hl6, rw6⟩ := G6.inn _ _ _ hq hen
    have own6 := G6.own q (List.mem_cons_of_mem _ (List.mem_of_getElem? hq))
    have lz : (ks.zip ws6).length < sizeLine := by
      rw [List.length_zip, ← hl6, Nat.min_self]
      exact few_lt hf
    refine ⟨q, _, rfl, DPut.k hw6 lz, ?_⟩
    have rv6 : Rep X.K M5 H6 v w := rv.grow (g5.trans g6.g)
    have gw := write_grow (M := M5) (o := .dK (putK (ks.zip ws6) kn w)) hw6 nx_dK own6.1
    have hin : InAt X.K M5 (upd H6 q (.dK (putK (ks.zip ws6) kn w))) q (.dck (putKs kn ks) (putDs kn v ks us)) :=
      ⟨putDs kn w ks ws6, by rw [upd_same, putK_zip hl6], putDs_len hl6, (putDs_reps hl6 rw6 rv6).grow gw⟩
    exact ⟨M5, δ6, _, qs5, E6.write hw6 nx_dK nt_dK own6.1 own6.2.1 own6.2.2, (((g4.trans gv.g).trans g5).trans g6.g).trans gw, G6.set hq hen hin, h7⟩
end
end Dn

set_option Elab.async false
set_option linter.all false
set_option maxRecDepth 100000
set_option maxHeartbeats 4000000
namespace Dn
open PySem PySem.Spec PyProof.Rows L2
/-! ### dicts with tuples as keys that are looked at -/
def lookD {α : Type} (ks : List (List Key)) (ds : List α) (k : List Key) : Option α := ((ks.zip ds).find? fun e => decide (e.1 = k)).map (·.2)
def onDct (P : List (List Key) → List D → Prop) : D → Prop
  | .dct ks ds => P ks ds
  | _ => False
theorem dct_some {P : List (List Key) → List D → Prop} {d : D} (h : onDct P d) : ∃ ks ds, d = .dct ks ds ∧ P ks ds := by
  cases d with
  | dct ks ds => exact ⟨ks, ds, rfl, h⟩
  | _ => exact h.elim
theorem look_reps {K : Fr} {M : Ad} {H : Hp} {k : List Key} : ∀ {ks : List (List Key)} {ds : List D} {vs : List V} {d : D}, ks.length = vs.length → Reps K M H ds vs → lookD ks ds k = some d → ∃ v, valV (ks.zip vs) k = some v ∧ Rep K M H d v
  | [], ds, vs, d, _, _, h => by simp [lookD] at h
  | a :: ks, ds, [], d, hl, _, _ => by simp at hl
  | a :: ks, [], v :: vs, d, _, r, h => by simp [lookD] at h
  | a :: ks, e :: ds, v :: vs, d, hl, r, h => by
    obtain ⟨v', r', e1, r1, r2⟩ := r
    cases e1
    by_cases c : a = k
    · have : lookD (a :: ks) (e :: ds) k = some e := by simp [lookD, c]
      rw [this] at h
      cases h
      exact ⟨v, valV_pos c, r1⟩
    · have e2 : lookD (a :: ks) (e :: ds) k = lookD ks ds k := by simp [lookD, c]
      rw [e2] at h
      obtain ⟨u, hu, ru⟩ := look_reps (by simpa using hl) r2 h
      refine ⟨u, ?_, ru⟩
      show valV ((a, v) :: ks.zip vs) k = some u
      rw [valV_neg c, hu]
section
variable {X : Cx} {g : GX} {W : WX} {pos : Pos}
/-- d[a, ..] -/
def getTD (e : DEx) (kE : DAx) : DEx := fun δ Q Xd => e δ (fun d δ1 => onDct (fun ks ds => kE δ1 (fun kd δ2 => few kd.length ∧ onSome (fun k => onSome (fun d => Q d δ2) (lookD ks ds k)) (keysD kd)) Xd) d) Xd
theorem de_getT {e : Expr} {kes : List Expr} {x1 : Nat} {p1 : Pos} {ee : DEx} {kE : DAx} (hu : X.A.units + 1 < cLine) (he : DE X g W e ee) (hk : DA X g W kes kE) (hs : NoSl (.Tuple kes x1 p1) := by intro _ _; rfl) : DE X g W (.Subscript e (.Tuple kes x1 p1) pos) (getTD ee kE) := by
  refine ⟨(pe_dget hu he.pe (pe_tup (x1 := x1) (pos := p1) hk.pa) hs).imp fun σ H Q q => ?_⟩
  obtain ⟨M, δ, Qd, Xd, E, h, kq, kx⟩ := q
  refine ⟨M, δ, _, Xd, E, h, fun d δ1 v H1 h1 E1 g1 r1 => ?_, kx⟩
  obtain ⟨ks, ds, ed, h1⟩ := dct_some h1
  subst ed
  refine ⟨M, δ1, _, Xd, E1, h1, fun kd δ2 kv H2 ⟨hf, h2⟩ E2 g2 r2 => ⟨by rw [← r2.length]; exact few_line hf, fun b hb => ?_⟩, kx.grow g1⟩
  obtain ⟨k, ek, h2⟩ := onSome_of h2
  obtain ⟨d, el, h2⟩ := onSome_of h2
  have ev := keysD_reps r2 ek
  subst ev
  have s := same_upd (o := .tup (k.map kV)) hb
  obtain ⟨a, vs, ea, na, ha, hl, rs⟩ := (r1.grow g2.g).grow (Grow.of_same s)
  obtain ⟨w, hw, rw'⟩ := look_reps hl rs el
  refine ⟨a, w, ea, ?_, kq d δ2 w _ h2 (E2.same s) ((g1.trans g2).trans (Stp.same s)) rw'⟩
  rw [← hw]
  exact DGet.t ha upd_same
/-- d[t[lo:hi]], a part of a tuple -/
def getSD (e t : DEx) (l h : DOx) : DEx := fun δ Q Xd => e δ (fun d δ1 => onDct (fun ks ds => t δ1 (fun u δ2 => onTup (fun us => l δ2 (fun lo δ3 => h δ3 (fun hi δ4 =>
  ¬ (HT.sIx us.length 0 lo = 0 ∧ HT.sIx us.length us.length hi = us.length) ∧ onSome (fun k => onSome (fun d => Q d δ4) (lookD ks ds k)) (keysD (cutD us lo hi))) Xd) Xd) u) Xd) d) Xd
theorem de_getS {e t : Expr} {lo hi : Option Expr} {p1 p2 : Pos} {ee et : DEx} {l h : DOx} (hu : X.A.units + 1 < cLine) (he : DE X g W e ee) (ht : DE X g W t et) (hl : DO X g W lo l) (hh : DO X g W hi h) (hs : NoSl (.Subscript t (.Slice lo hi none p2) p1) := by intro _ _; rfl) :
    DE X g W (.Subscript e (.Subscript t (.Slice lo hi none p2) p1) pos) (getSD ee et l h) := by
  refine ⟨(pe_dget hu he.pe (pe_slice sl_tupA ht.pe hl.po hh.po) hs).imp fun σ H Q q => ?_⟩
  obtain ⟨M, δ, Qd, Xd, E, h0, kq, kx⟩ := q
  refine ⟨M, δ, _, Xd, E, h0, fun d δ1 v H1 h1 E1 g1 r1 => ?_, kx⟩
  obtain ⟨ks, ds, ed, h1⟩ := dct_some h1
  subst ed
  refine ⟨M, δ1, _, Xd, E1, h1, fun u δ2 w H2 h2 E2 g2 r2 => ?_, kx.grow g1⟩
  obtain ⟨us, a, vs, eu, ev, tt, rs, h2⟩ := tup_of r2 h2
  refine ⟨M, δ2, _, Xd, E2, h2, fun lo δ3 H3 h3 E3 g3 => ?_, (kx.grow g1).grow g2⟩
  refine ⟨M, δ3, _, Xd, E3, h3, fun hi δ4 H4 ⟨hw, h4⟩ E4 g4 => ?_, ((kx.grow g1).grow g2).grow g3⟩
  obtain ⟨k, ek, h4⟩ := onSome_of h4
  obtain ⟨d, el, h4⟩ := onSome_of h4
  have gg := g3.trans g4
  have rs4 := rs.grow gg.g
  refine ⟨a, vs, ev, (tt.grow gg.g).sq, fun hw' => absurd (by rw [rs.length]; exact hw') hw, fun _ b hb => ?_⟩
  have ev2 := keysD_reps (rs4.cut lo hi) ek
  rw [ev2]
  have s := same_upd (o := .tup (k.map kV)) hb
  obtain ⟨a', vs', ea, na, ha, hl', rs'⟩ := ((r1.grow (g2.trans gg).g)).grow (Grow.of_same s)
  obtain ⟨w', hw', rw'⟩ := look_reps hl' rs' el
  refine ⟨a', w', ea, ?_, kq d δ4 w' _ h4 (E4.same s) ((g1.trans (g2.trans gg)).trans (Stp.same s)) rw'⟩
  rw [← hw']
  exact DGet.t ha upd_same
abbrev cLenD : DC := fun ds P => on1 (onDck fun ks us => P (.int ks.length)) ds
theorem ok_lenD {K : Fr} : CROk K (fun xs H Q => ∃ a kvs, xs = [V.ref a] ∧ H a = some (.dK kvs) ∧ Q (.int kvs.length) H) cLenD := fun M H ds vs Q P dom r hf k => by
  obtain ⟨d, v, _, ev, rv, h⟩ := one_of r hf
  obtain ⟨ks, us, ed, h⟩ := dck_some h
  subst ed
  obtain ⟨a, ws, ea, na, ha, hl, rs⟩ := rv
  refine ⟨a, ks.zip ws, by rw [ev, ea], ha, ?_⟩
  rw [List.length_zip, ← hl, Nat.min_self]
  exact k _ _ H h (Same.refl _) rfl
/-! ### sorted(d) -/
def keyK : Key → D
  | .inl i => .int i
  | .inr x => .str x
theorem keyK_rep {K : Fr} {M : Ad} {H : Hp} (k : Key) : Rep K M H (keyK k) (kV k) := by
  cases k <;> rfl
theorem keysK_reps {K : Fr} {M : Ad} {H : Hp} : ∀ ks : List Key, Reps K M H (ks.map keyK) (ks.map kV)
  | [] => rfl
  | k :: ks => ⟨_, _, rfl, keyK_rep k, keysK_reps ks⟩
def kTupD (k : List Key) : D := .tup (k.map keyK)
def Pairs2 (B : Int) (ks : List (List Key)) : Prop := ∀ k ∈ ks, ∃ i j : Int, k = [.inl i, .inl j] ∧ 0 ≤ i ∧ i < B ∧ 0 ≤ j ∧ j < B
abbrev cSortT : DC := fun ds P => on1 (onDct fun ks us => ks.length < 64 ∧ (∃ B, Pairs2 B ks) ∧ ∀ ks' : List (List Key), List.Perm ks' ks → P (.lst (ks'.map kTupD))) ds
theorem ok_sortT {K : Fr} : CROk K rSortDT cSortT := fun M H ds vs Q P dom r hf k => by
  obtain ⟨d, v, _, ev, rv, h⟩ := one_of r hf
  obtain ⟨ks, us, ed, h64, ⟨B, hB⟩, hq⟩ := dct_some h
  subst ed
  obtain ⟨a, ws, ea, na, ha, hl, rs⟩ := rv
  have e1 : (ks.zip ws).map (·.1) = ks := List.map_fst_zip (by rw [hl]; exact Nat.le_refl _)
  refine ⟨a, ks.zip ws, B, by rw [ev, ea], ha, by rw [List.length_zip, ← hl, Nat.min_self]; exact h64, fun p hp => hB p.1 (List.of_mem_zip hp).1, fun l ks' bs hn pm pr => ?_⟩
  rw [e1] at pm
  have s := same_upd (o := .lst (bs.map V.ref)) hn
  refine k _ _ _ (hq ks' pm) s ⟨l, _, rfl, ⟨not_dom dom hn, upd_same⟩, ?_⟩
  refine Reps.grow (Grow.of_same s) (M := M) ?_
  clear s hn pm
  induction pr with
  | nil => rfl
  | @cons k' b ks'' bs' h1 t ih => exact ⟨_, _, rfl, ⟨b, _, rfl, .inl (.inl h1), keysK_reps k'⟩, ih⟩
end
end Dn
namespace Dn
open PySem PySem.Spec PyProof.Rows L2
theorem hu_1 {k : Nat} {A : Around} (hr : Room k A) : A.units + 1 < cLine := by
  have := hr.un
  omega
end Dn

set_option Elab.async false
set_option linter.all false
set_option maxRecDepth 100000
set_option maxHeartbeats 4000000
namespace Dn
open PySem PySem.Spec PyProof.Rows L2
/-! ### readings evaluated -/
theorem forL_ind {gt : DGt} {s : DSt} {k : DK} (I : List D → DEnv → Prop) (hnil : ∀ δ, I [] δ → k.nx δ)
    (hcons : ∀ (d : D) (ds : List D) (δ : DEnv) (R : DEnv → Prop), (∀ δ', I ds δ' → R δ') → I (d :: ds) δ → gt d δ fun δ1 => s { k with nx := R, ct := R, bk := k.nx } δ1) : ∀ (ds : List D) (δ : DEnv), I ds δ → forL gt s k ds δ
  | [], δ, h => hnil δ h
  | d :: ds, δ, h => hcons d ds δ (forL gt s k ds) (fun δ' h' => forL_ind I hnil hcons ds δ' h') h
/-- a comprehension without a test whose element gives f -/
theorem lcL_map {gt : DGt} {elt : DEx} {vs : List Nat} {Q : List D → DEnv → Prop} {δ : DEnv} (f : D → D) : ∀ (ds acc : List D), few (acc.length + ds.length) →
    (∀ d ∈ ds, ∀ Q : D → DEnv → Prop, (∀ δ1, wipeD δ1 vs = δ → Q (f d) δ1) → gt d δ fun δ1 => elt δ1 Q noX) → Q (acc ++ ds.map f) δ → lcL gt yesD elt vs Q ds acc δ
  | [], acc, _, _, h => by simpa [lcL] using h
  | d :: ds, acc, hn, hs, h => by
    unfold lcL yesD
    simp only [if_true]
    refine hs d (List.mem_cons_self ..) _ fun δ1 hw => ⟨Nat.le_trans (by simp) hn, ?_⟩
    rw [hw]
    exact lcL_map f ds (acc ++ [f d]) (by simp only [List.length_append, List.length_cons, List.length_nil] at hn ⊢; unfold few at *; omega) (fun e he => hs e (List.mem_cons_of_mem _ he)) (by simpa using h)
end Dn

set_option Elab.async false
set_option linter.all false
set_option maxRecDepth 100000
set_option maxHeartbeats 4000000
/-! readings evaluated, step by step: rules for simp, from the head -/
namespace Dn
open PySem PySem.Spec PyProof.Rows L2
section
variable {δ : DEnv} {c : Cell} {d : D} {Q : D → DEnv → Prop} {Xd : XD} {i : Nat} {nx bk ct : DEnv → Prop} {rt : Cell → DEnv → Prop} {k : DK}
/- names -/
@[simp ↓] theorem x_vD0 : vD 0 (.val d :: δ) Q Xd = Q d (.val d :: δ) := propext Iff.rfl
@[simp ↓] theorem x_vDs : vD (i + 1) (c :: δ) Q Xd = vD i δ (fun d δ' => Q d (c :: δ')) Xd := propext Iff.rfl
@[simp ↓] theorem x_cD : cD d δ Q Xd = Q d δ := propext Iff.rfl
def gM (i : Nat) (c : Cell) : DEnv → (DEnv → Prop) → Prop := fun δ Q => Q (δ.set i c)
@[simp ↓] theorem x_gM0 {P : DEnv → Prop} {e : Cell} : gM 0 c (e :: δ) P = P (c :: δ) := propext Iff.rfl
@[simp ↓] theorem x_gMs {P : DEnv → Prop} {e : Cell} : gM (i + 1) c (e :: δ) P = gM i c δ (fun δ' => P (e :: δ')) := propext Iff.rfl
@[simp ↓] theorem x_gN0v {P : DEnv → Prop} {e : D} : gN 0 d (.val e :: δ) P = P (.val d :: δ) := by simp [gN, slotOk]
@[simp ↓] theorem x_gN0e {P : DEnv → Prop} : gN 0 d (.emp :: δ) P = P (.val d :: δ) := by simp [gN, slotOk]
@[simp ↓] theorem x_gNs {P : DEnv → Prop} {e : Cell} : gN (i + 1) d (e :: δ) P = gM i (.val d) δ (fun δ' => P (e :: δ')) := by simp [gN, slotOk, gM]
@[simp ↓] theorem x_gn0 {P : DEnv → Prop} : gn0 [] δ P = P δ := propext Iff.rfl
@[simp ↓] theorem x_gn1 {gt : DGt} {gs : DGs} {ds : List D} {P : DEnv → Prop} : gn1 gt gs (d :: ds) δ P = gt d δ fun δ1 => gs ds δ1 P := propext Iff.rfl
@[simp ↓] theorem x_gT {n : Nat} {gs : DGs} {ds : List D} {P : DEnv → Prop} : gT n gs (.tup ds) δ P = (ds.length = n ∧ gs ds δ P) := propext Iff.rfl
@[simp ↓] theorem x_gL {n : Nat} {gs : DGs} {ds : List D} {P : DEnv → Prop} : gL n gs (.lst ds) δ P = (ds.length = n ∧ gs ds δ P) := propext Iff.rfl
/- things at hand -/
@[simp ↓] theorem x_onB {P : Bool → Prop} {b : Bool} : onB P (.bl b) = P b := propext Iff.rfl
@[simp ↓] theorem x_onI {P : Int → Prop} {b : Int} : onI P (.int b) = P b := propext Iff.rfl
@[simp ↓] theorem x_onS {P : Str → Prop} {b : Str} : onS P (.str b) = P b := propext Iff.rfl
@[simp ↓] theorem x_onTup {P : List D → Prop} {b : List D} : onTup P (.tup b) = P b := propext Iff.rfl
@[simp ↓] theorem x_onLst {P : List D → Prop} {b : List D} : onLst P (.lst b) = P b := propext Iff.rfl
@[simp ↓] theorem x_onTupL {P : List D → Prop} {b : List D} : onTup P (.lst b) = False := propext Iff.rfl
@[simp ↓] theorem x_onLstT {P : List D → Prop} {b : List D} : onLst P (.tup b) = False := propext Iff.rfl
@[simp ↓] theorem x_onScr {P : List Int → Prop} {b : List Int} : onScr P (.scr b) = P b := propext Iff.rfl
@[simp ↓] theorem x_on1 {P : D → Prop} : on1 P [d] = P d := propext Iff.rfl
@[simp ↓] theorem x_on2 {P : D → D → Prop} {e : D} : on2 P [d, e] = P d e := propext Iff.rfl
@[simp ↓] theorem x_onSome {α : Type} {P : α → Prop} {a : α} : onSome P (some a) = P a := propext Iff.rfl
@[simp ↓] theorem x_onNone {α : Type} {P : α → Prop} : onSome P (none : Option α) = False := propext Iff.rfl
@[simp ↓] theorem x_onVal {P : D → Prop} : onVal P (.val d) = P d := propext Iff.rfl
@[simp ↓] theorem x_onNew {P : List D → Prop} {ds : List D} : onNew P (.own (.lst ds)) = P ds := propext Iff.rfl
@[simp ↓] theorem x_onOwn {P : List D → Prop} {ds : List D} : onOwn P (some (.own (.lst ds))) = P ds := propext Iff.rfl
@[simp ↓] theorem x_seqOfT {P : List D → Prop} {ds : List D} : seqOf P (.tup ds) = P ds := propext Iff.rfl
@[simp ↓] theorem x_seqOfL {P : List D → Prop} {ds : List D} : seqOf P (.lst ds) = P ds := propext Iff.rfl
@[simp ↓] theorem x_ixOfT {P : D → Prop} {j : Int} {ds : List D} : ixOf P j (.tup ds) = onSome P (atI ds j) := propext Iff.rfl
@[simp ↓] theorem x_ixOfL {P : D → Prop} {j : Int} {ds : List D} : ixOf P j (.lst ds) = onSome P (atI ds j) := propext Iff.rfl
@[simp ↓] theorem x_lenT {P : D → Prop} {ds : List D} : lenOf P (.tup ds) = P (.int ds.length) := propext Iff.rfl
@[simp ↓] theorem x_lenL {P : D → Prop} {ds : List D} : lenOf P (.lst ds) = P (.int ds.length) := propext Iff.rfl
@[simp ↓] theorem x_lenS {P : D → Prop} {x : Str} : lenOf P (.str x) = (few x.length ∧ P (.int x.length)) := propext Iff.rfl
@[simp ↓] theorem x_intI {P : D → Prop} {j : Int} : intOf P (.int j) = P (.int j) := propext Iff.rfl
@[simp ↓] theorem x_intB {P : D → Prop} {b : Bool} : intOf P (.bl b) = P (.int (if b then 1 else 0)) := propext Iff.rfl
@[simp ↓] theorem x_onDct {P : List (List Key) → List D → Prop} {ks : List (List Key)} {ds : List D} : onDct P (.dct ks ds) = P ks ds := propext Iff.rfl
@[simp ↓] theorem x_onDck {P : List Key → List D → Prop} {ks : List Key} {ds : List D} : onDck P (.dck ks ds) = P ks ds := propext Iff.rfl
@[simp ↓] theorem x_onObj {C c : Str} {P : Prop} {ns : List Str} {ds : List D} : onObj C P (.obj c ns ds) = (c = C ∧ P) := propext Iff.rfl
/- tests, operations -/
section
variable {ea eb ec e : DEx} {as : DAx} {t u : DTx} {T : Bool → DEnv → Prop} {A : List D → DEnv → Prop}
@[simp ↓] theorem x_tD : tD e δ T Xd = e δ (fun d δ1 => onB (fun b => T b δ1) d) Xd := propext Iff.rfl
@[simp ↓] theorem x_andD : andD t u δ T Xd = t δ (fun b δ1 => if b = true then u δ1 T Xd else T false δ1) Xd := propext Iff.rfl
@[simp ↓] theorem x_orD : orD t u δ T Xd = t δ (fun b δ1 => if b = true then T true δ1 else u δ1 T Xd) Xd := propext Iff.rfl
@[simp ↓] theorem x_notD : notD t δ T Xd = t δ (fun b δ1 => T (!b) δ1) Xd := propext Iff.rfl
@[simp ↓] theorem x_yesD : yesD δ T Xd = T true δ := propext Iff.rfl
@[simp ↓] theorem x_andV : andV ea eb δ Q Xd = ea δ (fun d δ1 => onB (fun b => if b = true then eb δ1 Q Xd else Q (.bl false) δ1) d) Xd := propext Iff.rfl
@[simp ↓] theorem x_orV : orV ea eb δ Q Xd = ea δ (fun d δ1 => onB (fun b => if b = true then Q (.bl true) δ1 else eb δ1 Q Xd) d) Xd := propext Iff.rfl
@[simp ↓] theorem x_notV : notV ea δ Q Xd = ea δ (fun d δ1 => onB (fun b => Q (.bl (!b)) δ1) d) Xd := propext Iff.rfl
@[simp ↓] theorem x_ifD : ifD t ea eb δ Q Xd = t δ (fun b δ1 => if b = true then ea δ1 Q Xd else eb δ1 Q Xd) Xd := propext Iff.rfl
@[simp ↓] theorem x_opD {f : D2} : opD f ea eb δ Q Xd = ea δ (fun x δ1 => eb δ1 (fun y δ2 => f x y fun z => Q z δ2) Xd) Xd := propext Iff.rfl
@[simp ↓] theorem x_opV {f : D2V} {ef : DFx} : opV f ea ef δ Q Xd = ea δ (fun x δ1 => ef δ1 (fun y δ2 => f x y fun z => Q z δ2) Xd) Xd := propext Iff.rfl
@[simp ↓] theorem x_chD {f f' : D2} : chD f f' ea eb ec δ Q Xd = ea δ (fun x δ1 => eb δ1 (fun y δ2 => f x y (onB fun k => if k = true then ec δ2 (fun u δ3 => f' y u fun z' => Q z' δ3) Xd else Q (.bl false) δ2)) Xd) Xd := propext Iff.rfl
@[simp ↓] theorem x_negD : negD e δ Q Xd = e δ (fun d δ1 => onI (fun i => Q (.int (-i)) δ1) d) Xd := propext Iff.rfl
@[simp ↓] theorem x_anD : anD δ A Xd = A [] δ := propext Iff.rfl
@[simp ↓] theorem x_acD : acD ea as δ A Xd = ea δ (fun d δ1 => as δ1 (fun ds δ2 => A (d :: ds) δ2) Xd) Xd := propext Iff.rfl
@[simp ↓] theorem x_tupD : tupD as δ Q Xd = as δ (fun ds δ1 => few ds.length ∧ Q (.tup ds) δ1) Xd := propext Iff.rfl
@[simp ↓] theorem x_lstD : lstD as δ Q Xd = as δ (fun ds δ1 => few ds.length ∧ Q (.lst ds) δ1) Xd := propext Iff.rfl
@[simp ↓] theorem x_callBD {f : DC} : callBD f as δ Q Xd = as δ (fun ds δ1 => f ds fun z => Q z δ1) Xd := propext Iff.rfl
@[simp ↓] theorem x_viewD {f : DC} {ef : DFx} : viewD f ef δ Q Xd = ef δ (fun ds δ1 => f ds fun z => Q z δ1) Xd := propext Iff.rfl
@[simp ↓] theorem x_callD {w : Wp} : callD w as δ Q Xd = as δ (fun ds δ1 => w ds (onVal fun d => Q d δ1) fun x xs => Xd x xs δ1) Xd := propext Iff.rfl
@[simp ↓] theorem x_callF {w : Wp} : callF w as δ A Xd = as δ (fun ds δ1 => w ds (onNew fun d => A d δ1) fun x xs => Xd x xs δ1) Xd := propext Iff.rfl
/-- a call that waits: what comes behind it is left alone -/
structure Tag {α : Sort 1} (a : α) : Type where
def callK (w : WpH) (hs ds : List D) (Q : List D → Cell → Prop) (t : Tag Q) : Prop := w hs ds Q
theorem callK_of {w : WpH} {hs ds : List D} {Q : List D → Cell → Prop} {t : Tag Q} (h : w hs ds Q) : callK w hs ds Q t := h
@[simp ↓] theorem x_callH0 {w : WpH} {hs : List D} : callH w 0 as (.own (.lst hs) :: δ) Q Xd = as (.own (.lst hs) :: δ) (fun ds δ1 => onOwn (fun hs => callK w hs ds (fun hs' c => onVal (fun d => gM 0 (.own (.lst hs')) δ1 fun δ2 => Q d δ2) c) ⟨⟩) δ1[0]?) Xd := propext Iff.rfl
@[simp ↓] theorem x_callH1 {w : WpH} {hs : List D} : callH w 1 as (c :: .own (.lst hs) :: δ) Q Xd = as (c :: .own (.lst hs) :: δ) (fun ds δ1 => onOwn (fun hs => callK w hs ds (fun hs' c => onVal (fun d => gM 1 (.own (.lst hs')) δ1 fun δ2 => Q d δ2) c) ⟨⟩) δ1[1]?) Xd := propext Iff.rfl
@[simp ↓] theorem x_at0 : (c :: δ : DEnv)[0]? = some c := rfl
@[simp ↓] theorem x_ats : (c :: δ : DEnv)[i + 1]? = (δ[i]? : Option Cell) := rfl
@[simp ↓] theorem x_frD {ef : DFx} : frD ef δ Q Xd = ef δ (fun ds δ1 => Q (.lst ds) δ1) Xd := propext Iff.rfl
@[simp ↓] theorem x_lsF : lsF as δ A Xd = as δ (fun ds δ1 => few ds.length ∧ A ds δ1) Xd := propext Iff.rfl
@[simp ↓] theorem x_ownV0 {ds : List D} : ownV 0 (.own (.lst ds) :: δ) A Xd = A ds (.own (.lst ds) :: δ) := propext Iff.rfl
@[simp ↓] theorem x_ownVs : ownV (i + 1) (c :: δ) A Xd = ownV i δ (fun ds δ' => A ds (c :: δ')) Xd := propext Iff.rfl
@[simp ↓] theorem x_lstV : lstV e δ A Xd = e δ (fun d δ1 => onLst (fun ds => A ds δ1) d) Xd := propext Iff.rfl
@[simp ↓] theorem x_scrV : scrV e δ A Xd = e δ (fun d δ1 => onScr (fun ns => A (ns.map D.int) δ1) d) Xd := propext Iff.rfl
@[simp ↓] theorem x_seqV : seqV e δ A Xd = e δ (fun d δ1 => (onLst (fun ds => A ds δ1) d) ∨ (onTup (fun ds => A ds δ1) d)) Xd := propext Iff.rfl
@[simp ↓] theorem x_isiD {T : Ty} : isiD T e δ Q Xd = e δ (fun d δ1 => flatT d = true ∧ Q (.bl (isTy T d)) δ1) Xd := propext Iff.rfl
@[simp ↓] theorem x_isi2D {S T : Ty} : isi2D S T e δ Q Xd = e δ (fun d δ1 => flatT d = true ∧ Q (.bl (isTy S d || isTy T d)) δ1) Xd := propext Iff.rfl
@[simp ↓] theorem x_isoD {C : Str} : isoD C e δ Q Xd = e δ (fun d δ1 => onObj C (Q (.bl true) δ1) d) Xd := propext Iff.rfl
@[simp ↓] theorem x_fldD {C f : Str} : fldD C f e δ Q Xd = e δ (fun d δ1 => fldOf C f (fun z => Q z δ1) d) Xd := propext Iff.rfl
@[simp ↓] theorem x_noO {O : Option Int → DEnv → Prop} : noO δ O Xd = O none δ := propext Iff.rfl
@[simp ↓] theorem x_soO {O : Option Int → DEnv → Prop} : soO e δ O Xd = e δ (fun d δ1 => onI (fun i => O (some i) δ1) d) Xd := propext Iff.rfl
@[simp ↓] theorem x_slT {l h : DOx} : slT e l h δ Q Xd = e δ (fun d δ1 => onTup (fun ds => l δ1 (fun lo δ2 => h δ2 (fun hi δ3 => Q (.tup (cutD ds lo hi)) δ3) Xd) Xd) d) Xd := propext Iff.rfl
@[simp ↓] theorem x_slF {l h : DOx} : slF e l h δ A Xd = e δ (fun d δ1 => onLst (fun ds => l δ1 (fun lo δ2 => h δ2 (fun hi δ3 => A (cutD ds lo hi) δ3) Xd) Xd) d) Xd := propext Iff.rfl
@[simp ↓] theorem x_slS {l h : DOx} : slS e l h δ A Xd = e δ (fun d δ1 => onScr (fun ns => l δ1 (fun lo δ2 => h δ2 (fun hi δ3 => A (cutD (ns.map D.int) lo hi) δ3) Xd) Xd) d) Xd := propext Iff.rfl
@[simp ↓] theorem x_ixO : ixO i e δ Q Xd = ownV i δ (fun _ δ0 => e δ0 (fun j δ2 => ownV i δ2 (fun ds _ => onI (fun j => onSome (fun d => Q d δ2) (atI ds j)) j) Xd) Xd) Xd := propext Iff.rfl
@[simp ↓] theorem x_ixLD : ixLD ea eb δ Q Xd = ea δ (fun x δ1 => onLst (fun ds => eb δ1 (fun y δ2 => dIxS (.lst ds) y fun z => Q z δ2) Xd) x) Xd := propext Iff.rfl
@[simp ↓] theorem x_ixTD {ns : List Str} : ixTD ns e δ Q Xd = e δ (fun y δ2 => dIxS (.tup (ns.map D.str)) y fun z => Q z δ2) Xd := propext Iff.rfl
@[simp ↓] theorem x_makeD {C : Str} {w : WpI} : makeD C w as δ Q Xd = as δ (fun ds δ1 => w ds fun ns fs => Q (.obj C ns fs) δ1) Xd := propext Iff.rfl
@[simp ↓] theorem x_lamD {B r : Str} : lamD B r e δ Q Xd = e δ Q fun x ds δ' => x = B ∧ ds = [] ∧ Q (.str r) δ' := propext Iff.rfl
/- what is gone through -/
@[simp ↓] theorem x_ilD : ilD e δ A Xd = e δ (fun d δ1 => onLst (fun ds => A ds δ1) d) Xd := propext Iff.rfl
@[simp ↓] theorem x_itD : itD e δ A Xd = e δ (fun d δ1 => onTup (fun ds => A ds δ1) d) Xd := propext Iff.rfl
@[simp ↓] theorem x_isD : isD e δ A Xd = e δ (fun d δ1 => onS (fun x => A (strD x) δ1) d) Xd := propext Iff.rfl
@[simp ↓] theorem x_irD : irD as δ A Xd = as δ (fun ds δ1 => on1 (onI fun n => small n ∧ A (rngD 0 n.toNat) δ1) ds) Xd := propext Iff.rfl
@[simp ↓] theorem x_ir2D : ir2D as δ A Xd = as δ (fun ds δ1 => on2 (fun d e => onI (fun m => onI (fun n => small m ∧ small n ∧ A (rngD m (n - m).toNat) δ1) e) d) ds) Xd := propext Iff.rfl
@[simp ↓] theorem x_ieD : ieD as δ A Xd = as δ (fun ds δ1 => on1 (onLst fun es => A (enumD es) δ1) ds) Xd := propext Iff.rfl
@[simp ↓] theorem x_ietD : ietD as δ A Xd = as δ (fun ds δ1 => on1 (onTup fun es => A (enumD es) δ1) ds) Xd := propext Iff.rfl
@[simp ↓] theorem x_izD : izD as δ A Xd = as δ (fun ds δ1 => on2 (fun d e => onLst (fun xs => onLst (fun ys => A (zipD xs ys) δ1) e) d ∨ onTup (fun xs => onTup (fun ys => A (zipD xs ys) δ1) e) d) ds) Xd := propext Iff.rfl
@[simp ↓] theorem x_iezD : iezD as δ A Xd = as δ (fun ds δ1 => on2 (fun d e => onTup (fun xs => onTup (fun ys => A (enumD (zipD xs ys)) δ1) e) d) ds) Xd := propext Iff.rfl
@[simp ↓] theorem x_lcF {it : DIx} {gt : DGt} {vs : List Nat} : lcF it gt t e vs δ A Xd = it δ (fun ds δ1 => noOwn δ1 vs ∧ lcL gt t e vs (fun out δ2 => A out (unw δ1 δ2 vs)) ds [] (wipeD δ1 vs)) Xd := propext Iff.rfl
@[simp ↓] theorem x_wipe0 : wipeD δ [] = δ := rfl
@[simp ↓] theorem x_wipes {vs : List Nat} : wipeD δ (i :: vs) = (wipeD δ vs).set i .emp := rfl
@[simp ↓] theorem x_unw0 {δ2 : DEnv} : unw δ δ2 [] = δ2 := rfl
@[simp ↓] theorem x_unws {δ2 : DEnv} {vs : List Nat} : unw δ δ2 (i :: vs) = (unw δ δ2 vs).set i (δ.getD i .emp) := rfl
@[simp ↓] theorem x_set0 {e : Cell} : (c :: δ : DEnv).set 0 e = e :: δ := rfl
@[simp ↓] theorem x_sets {e : Cell} : (c :: δ : DEnv).set (i + 1) e = c :: δ.set i e := rfl
@[simp ↓] theorem x_get0 {e : Cell} : (c :: δ : DEnv).getD 0 e = c := rfl
@[simp ↓] theorem x_gets {e : Cell} : (c :: δ : DEnv).getD (i + 1) e = δ.getD i e := rfl
@[simp ↓] theorem x_noOwn0 : noOwn δ [] = True := propext Iff.rfl
@[simp ↓] theorem x_noOwns {vs : List Nat} : noOwn δ (i :: vs) = ((match (δ[i]? : Option Cell) with
    | some (Cell.own _) => False
    | _ => True) ∧ noOwn δ vs) := propext Iff.rfl
/- statements -/
variable {s s1 s2 : DSt} {gt : DGt}
@[simp ↓] theorem x_next {ex : XD} : nextD ⟨nx, rt, bk, ct, ex⟩ δ = nx δ := propext Iff.rfl
@[simp ↓] theorem x_seq {ex : XD} : seqD s1 s2 ⟨nx, rt, bk, ct, ex⟩ δ = s1 ⟨s2 ⟨nx, rt, bk, ct, ex⟩, rt, bk, ct, ex⟩ δ := propext Iff.rfl
@[simp ↓] theorem x_break {ex : XD} : breakD ⟨nx, rt, bk, ct, ex⟩ δ = bk δ := propext Iff.rfl
@[simp ↓] theorem x_cont {ex : XD} : contD ⟨nx, rt, bk, ct, ex⟩ δ = ct δ := propext Iff.rfl
@[simp] theorem x_slotS : slotOk (i + 1) δ = True := by simp [slotOk]
@[simp] theorem x_slot0v : slotOk 0 (.val d :: δ) = True := by simp [slotOk]
@[simp] theorem x_slot0e : slotOk 0 (.emp :: δ) = True := by simp [slotOk]
@[simp ↓] theorem x_never : neverS k δ = False := propext Iff.rfl
@[simp ↓] theorem x_expr {ex : XD} : exprD e ⟨nx, rt, bk, ct, ex⟩ δ = e δ (fun _ δ1 => nx δ1) ex := propext Iff.rfl
@[simp ↓] theorem x_ret {ex : XD} : retD e ⟨nx, rt, bk, ct, ex⟩ δ = e δ (fun d δ1 => rt (.val d) δ1) ex := propext Iff.rfl
@[simp ↓] theorem x_retN {ex : XD} : retND ⟨nx, rt, bk, ct, ex⟩ δ = rt (.val .non) δ := propext Iff.rfl
@[simp ↓] theorem x_if {ex : XD} : ifS t s1 s2 ⟨nx, rt, bk, ct, ex⟩ δ = t δ (fun b δ1 => if b = true then s1 ⟨nx, rt, bk, ct, ex⟩ δ1 else s2 ⟨nx, rt, bk, ct, ex⟩ δ1) ex := propext Iff.rfl
@[simp ↓] theorem x_asg {ex : XD} : asgD e gt ⟨nx, rt, bk, ct, ex⟩ δ = e δ (fun d δ1 => gt d δ1 nx) ex := propext Iff.rfl
@[simp ↓] theorem x_raise {x : Str} {ex : XD} : raiseD x ⟨nx, rt, bk, ct, ex⟩ δ = ex x [] δ := propext Iff.rfl
@[simp ↓] theorem x_for {it : DIx} {ex : XD} : forD it gt s ⟨nx, rt, bk, ct, ex⟩ δ = it δ (fun ds δ1 => forL gt s ⟨nx, rt, bk, ct, ex⟩ ds δ1) ex := propext Iff.rfl
theorem x_forn : forL gt s k [] δ = k.nx δ := rfl
theorem x_forc {ds : List D} {ex : XD} : forL gt s ⟨nx, rt, bk, ct, ex⟩ (d :: ds) δ = gt d δ fun δ1 => s ⟨forL gt s ⟨nx, rt, bk, ct, ex⟩ ds, rt, nx, forL gt s ⟨nx, rt, bk, ct, ex⟩ ds, ex⟩ δ1 := rfl
/- own lists: at the first places -/
@[simp ↓] theorem x_app {ex : XD} : appD i e ⟨nx, rt, bk, ct, ex⟩ δ = ownV i δ (fun _ δ0 => e δ0 (fun d δ1 => ownV i δ1 (fun ds δ2 => few ds.length ∧ gM i (.own (.lst (ds ++ [d]))) δ2 nx) ex) ex) ex := by
  show onOwn _ _ = ownV _ _ _ _
  unfold ownV onOwn
  cases h : (δ[i]? : Option Cell) with
  | none => rfl
  | some c =>
    cases c with
    | emp => rfl
    | val d => rfl
    | own d =>
      cases d with
      | lst ds => rfl
      | _ => rfl
@[simp ↓] theorem x_setD {ej : DEx} {ex : XD} : setD i ej e ⟨nx, rt, bk, ct, ex⟩ δ = e δ (fun d δ1 => ownV i δ1 (fun _ δ0 => ej δ0 (fun j δ2 => onI (fun j => ownV i δ2 (fun ds δ3 => onSome (fun n => gM i (.own (.lst (ds.set n d))) δ3 nx) (ixN ds.length j)) ex) j) ex) ex) ex := by
  show e δ (fun d δ1 => onOwn _ _) ex = _
  refine congrArg (fun f => e δ f ex) ?_
  funext d δ1
  unfold ownV onOwn
  cases h : (δ1[i]? : Option Cell) with
  | none => rfl
  | some c =>
    cases c with
    | emp => rfl
    | val d => rfl
    | own d =>
      cases d with
      | lst ds => rfl
      | _ => rfl
def sM (i : Nat) (c : Cell) : DEnv → (DEnv → Prop) → Prop := fun δ P => slotOk i δ ∧ P (δ.set i c)
@[simp ↓] theorem x_sM0v {P : DEnv → Prop} {e : D} : sM 0 c (.val e :: δ) P = P (c :: δ) := by simp [sM, slotOk]
@[simp ↓] theorem x_sM0e {P : DEnv → Prop} : sM 0 c (.emp :: δ) P = P (c :: δ) := by simp [sM, slotOk]
@[simp ↓] theorem x_sMs {P : DEnv → Prop} {e : Cell} : sM (i + 1) c (e :: δ) P = gM i c δ (fun δ' => P (e :: δ')) := by simp [sM, slotOk, gM]
@[simp ↓] theorem x_own {ef : DFx} {ex : XD} : ownD ef i ⟨nx, rt, bk, ct, ex⟩ δ = ef δ (fun ds δ1 => sM i (.own (.lst ds)) δ1 nx) ex := propext Iff.rfl
@[simp ↓] theorem x_setAll0 {P : DEnv → Prop} : setAll [] [] δ P = P δ := propext Iff.rfl
@[simp ↓] theorem x_setAlls {is : List Nat} {cs : List Cell} {P : DEnv → Prop} : setAll (i :: is) (c :: cs) δ P = sM i c δ (fun δ1 => setAll is cs δ1 P) := propext Iff.rfl
@[simp ↓] theorem x_par {is : List Nat} {m : DMx} {ex : XD} : parD is m ⟨nx, rt, bk, ct, ex⟩ δ = m δ (fun cs δ1 => setAll is cs δ1 nx) ex := propext Iff.rfl
section
variable {C : List Cell → DEnv → Prop} {m : DMx} {ef : DFx}
@[simp ↓] theorem x_mn : mnD δ C Xd = C [] δ := propext Iff.rfl
@[simp ↓] theorem x_mv : mvD e m δ C Xd = e δ (fun d δ1 => m δ1 (fun cs δ2 => C (.val d :: cs) δ2) Xd) Xd := propext Iff.rfl
@[simp ↓] theorem x_mo : moD ef m δ C Xd = ef δ (fun ds δ1 => m δ1 (fun cs δ2 => C (.own (.lst ds) :: cs) δ2) Xd) Xd := propext Iff.rfl
end
@[simp ↓] theorem x_frz : frzD i s k δ = ownV i δ (fun ds δ1 => slotOk i δ ∧ gM i (.val (.lst ds)) δ1 (s k)) k.ex := by
  show onOwn _ _ = ownV _ _ _ _
  unfold ownV onOwn
  cases h : (δ[i]? : Option Cell) with
  | none => rfl
  | some c =>
    cases c with
    | emp => rfl
    | val d => rfl
    | own d =>
      cases d with
      | lst ds => rfl
      | _ => rfl
@[simp ↓] theorem x_retO {ex : XD} : retO i ⟨nx, rt, bk, ct, ex⟩ δ = ownV i δ (fun ds δ1 => slotOk i δ ∧ rt (.own (.lst ds)) δ1) ex := by
  show onOwn _ _ = ownV _ _ _ _
  unfold ownV onOwn
  cases h : (δ[i]? : Option Cell) with
  | none => rfl
  | some c =>
    cases c with
    | emp => rfl
    | val d => rfl
    | own d =>
      cases d with
      | lst ds => rfl
      | _ => rfl
@[simp ↓] theorem x_retF {ef : DFx} {ex : XD} : retF ef ⟨nx, rt, bk, ct, ex⟩ δ = ef δ (fun ds δ1 => rt (.own (.lst ds)) δ1) ex := propext Iff.rfl
end
end
/-! operations -/
section
variable {P : D → Prop} {i j : Int} {x y : D}
@[simp] theorem x_atI0 {α : Type} {a : α} {l : List α} : atI (a :: l) 0 = some a := by simp [atI, ixN]
theorem atI_nat {α : Type} (l : List α) (n : Nat) : atI l (n : Int) = l[n]? := by
  unfold atI ixN
  by_cases h : n < l.length
  · simp [h]
  · simp [h]
    try omega
@[simp] theorem x_atI1 {α : Type} {a b : α} {l : List α} : atI (a :: b :: l) 1 = some b := atI_nat (a :: b :: l) 1
@[simp] theorem x_atI2 {α : Type} {a b c : α} {l : List α} : atI (a :: b :: c :: l) 2 = some c := atI_nat (a :: b :: c :: l) 2
@[simp] theorem x_atI3 {α : Type} {a b c d : α} {l : List α} : atI (a :: b :: c :: d :: l) 3 = some d := atI_nat (a :: b :: c :: d :: l) 3
@[simp] theorem x_atI4 {α : Type} {a b c d e : α} {l : List α} : atI (a :: b :: c :: d :: e :: l) 4 = some e := atI_nat (a :: b :: c :: d :: e :: l) 4
@[simp] theorem x_ixN0 : ixN 5 0 = some 0 := rfl
@[simp] theorem x_ixN1 : ixN 5 1 = some 1 := rfl
@[simp] theorem x_ixN2 : ixN 5 2 = some 2 := rfl
@[simp] theorem x_ixN3 : ixN 5 3 = some 3 := rfl
@[simp] theorem x_ixN4 : ixN 5 4 = some 4 := rfl
theorem atI_of {α : Type} {l : List α} {j : Int} {a : α} (h0 : 0 ≤ j) (h : l[j.toNat]? = some a) : atI l j = some a := by
  obtain ⟨n, rfl⟩ := Int.eq_ofNat_of_zero_le h0
  rw [atI_nat]
  simpa using h
theorem atI_map {α β : Type} (f : α → β) (l : List α) (j : Int) : atI (l.map f) j = (atI l j).map f := by
  unfold atI
  rw [List.length_map]
  cases ixN l.length j with
  | none => rfl
  | some n => simp
theorem onSome_map {α β : Type} {P : β → Prop} {f : α → β} (o : Option α) : onSome P (o.map f) = onSome (fun a => P (f a)) o := by
  cases o <;> rfl
@[simp ↓] theorem x_fI {f : Int → Int → D} : fI f (.int i) (.int j) P = P (f i j) := propext Iff.rfl
@[simp ↓] theorem x_fIc {c : Int → Int → Prop} {f : Int → Int → D} : fIc c f (.int i) (.int j) P = (c i j ∧ P (f i j)) := propext Iff.rfl
@[simp] theorem x_eqI : flatEq (.int i) (.int j) = some (decide (i = j)) := rfl
@[simp] theorem x_eqB {a b : Bool} : flatEq (.bl a) (.bl b) = some (decide (a = b)) := rfl
@[simp] theorem x_eqS {a b : Str} : flatEq (.str a) (.str b) = some (decide (a = b)) := rfl
@[simp] theorem x_nonN : isNon .non = true := rfl
@[simp] theorem x_nonI : isNon (.int i) = false := rfl
@[simp] theorem x_nonB {b : Bool} : isNon (.bl b) = false := rfl
@[simp] theorem x_nonS {b : Str} : isNon (.str b) = false := rfl
@[simp] theorem x_nonT {l : List D} : isNon (.tup l) = false := rfl
@[simp] theorem x_nonL {l : List D} : isNon (.lst l) = false := rfl
@[simp] theorem x_flN : flatT .non = true := rfl
@[simp] theorem x_flI : flatT (.int i) = true := rfl
@[simp] theorem x_flB {b : Bool} : flatT (.bl b) = true := rfl
@[simp] theorem x_flS {b : Str} : flatT (.str b) = true := rfl
@[simp] theorem x_flT {l : List D} : flatT (.tup l) = true := rfl
@[simp] theorem x_flL {l : List D} : flatT (.lst l) = true := rfl
@[simp] theorem x_fdN : flatD .non = true := rfl
@[simp] theorem x_fdI : flatD (.int i) = true := rfl
@[simp] theorem x_fdB {b : Bool} : flatD (.bl b) = true := rfl
@[simp] theorem x_fdS {b : Str} : flatD (.str b) = true := rfl
@[simp] theorem x_efI : eqF (.int i) (.int j) = (i == j) := rfl
@[simp] theorem x_efS {a b : Str} : eqF (.str a) (.str b) = (a == b) := rfl
@[simp] theorem x_tyN {T : Ty} : isTy T .non = false := by cases T <;> rfl
@[simp] theorem x_tyI1 : isTy .int (.int i) = true := rfl
@[simp] theorem x_tyI2 : isTy .bool (.int i) = false := rfl
@[simp] theorem x_tyI3 : isTy .str (.int i) = false := rfl
@[simp] theorem x_tyI4 : isTy .tuple (.int i) = false := rfl
@[simp] theorem x_tyI5 : isTy .list (.int i) = false := rfl
@[simp] theorem x_tyB1 {b : Bool} : isTy .int (.bl b) = true := rfl
@[simp] theorem x_tyB2 {b : Bool} : isTy .bool (.bl b) = true := rfl
@[simp] theorem x_tyB3 {b : Bool} : isTy .str (.bl b) = false := rfl
@[simp] theorem x_tyB4 {b : Bool} : isTy .tuple (.bl b) = false := rfl
@[simp] theorem x_tyB5 {b : Bool} : isTy .list (.bl b) = false := rfl
@[simp] theorem x_tyS1 {b : Str} : isTy .int (.str b) = false := rfl
@[simp] theorem x_tyS2 {b : Str} : isTy .bool (.str b) = false := rfl
@[simp] theorem x_tyS3 {b : Str} : isTy .str (.str b) = true := rfl
@[simp] theorem x_tyS4 {b : Str} : isTy .tuple (.str b) = false := rfl
@[simp] theorem x_tyS5 {b : Str} : isTy .list (.str b) = false := rfl
@[simp] theorem x_tyT1 {l : List D} : isTy .int (.tup l) = false := rfl
@[simp] theorem x_tyT2 {l : List D} : isTy .bool (.tup l) = false := rfl
@[simp] theorem x_tyT3 {l : List D} : isTy .str (.tup l) = false := rfl
@[simp] theorem x_tyT4 {l : List D} : isTy .tuple (.tup l) = true := rfl
@[simp] theorem x_tyT5 {l : List D} : isTy .list (.tup l) = false := rfl
@[simp] theorem x_tyL1 {l : List D} : isTy .int (.lst l) = false := rfl
@[simp] theorem x_tyL2 {l : List D} : isTy .bool (.lst l) = false := rfl
@[simp] theorem x_tyL3 {l : List D} : isTy .str (.lst l) = false := rfl
@[simp] theorem x_tyL4 {l : List D} : isTy .tuple (.lst l) = false := rfl
@[simp] theorem x_tyL5 {l : List D} : isTy .list (.lst l) = true := rfl
/- views -/
@[simp] theorem dBls_mapF {α : Type} (f : α → Bool) : ∀ (l : List α), dBls (l.map fun a => .bl (f a)) = some (l.map f)
  | [] => rfl
  | a :: l => by
    show (dBls (l.map fun a => .bl (f a))).map (f a :: ·) = _
    rw [dBls_mapF f l]; rfl
@[simp] theorem dInts_mapF {α : Type} (f : α → Int) : ∀ (l : List α), dInts (l.map fun a => .int (f a)) = some (l.map f)
  | [] => rfl
  | a :: l => by
    show (dInts (l.map fun a => .int (f a))).map (f a :: ·) = _
    rw [dInts_mapF f l]; rfl
@[simp] theorem x_dInts (l : List Int) : dInts (l.map D.int) = some l := dInts_map l
@[simp] theorem x_dBls (l : List Bool) : dBls (l.map D.bl) = some l := dBls_map l
/-- a comprehension without a test -/
theorem lcL_mapE {α : Type} {gt : DGt} {elt : DEx} {vs : List Nat} {δ : DEnv} (g f : α → D) : ∀ (l : List α) {acc : List D} {Q : List D → DEnv → Prop}, few (acc.length + l.length) →
    (∀ a ∈ l, ∀ R : D → DEnv → Prop, gt (g a) δ (fun δ1 => elt δ1 (fun y δ3 => R y (wipeD δ3 vs)) noX) = R (f a) δ) → lcL gt yesD elt vs Q (l.map g) acc δ = Q (acc ++ l.map f) δ
  | [], acc, Q, _, _ => by simp [lcL]
  | a :: l, acc, Q, hn, hs => by
    have hn' : few ((acc ++ [f a]).length + l.length) := by
      unfold few at *
      simp only [List.length_append, List.length_cons, List.length_nil] at *
      omega
    have ha : few acc.length := by
      unfold few at *
      simp only [List.length_cons] at hn
      omega
    have ih := lcL_mapE (δ := δ) (gt := gt) (elt := elt) (vs := vs) g f l (acc := acc ++ [f a]) (Q := Q) hn' (fun e he => hs e (List.mem_cons_of_mem _ he))
    have h0 := hs a (List.mem_cons_self ..) (fun y δ3 => few acc.length ∧ lcL gt yesD elt vs Q (l.map g) (acc ++ [y]) δ3)
    rw [List.map_cons, List.map_cons]
    unfold lcL
    simp only [x_yesD, if_true]
    rw [h0, ih]
    simp [ha]
/-- a loop that goes through all: the state that stands for what is left -/
theorem forL_eq {α σ : Type} {gt : DGt} {s : DSt} {nx bk ct : DEnv → Prop} {rt : Cell → DEnv → Prop} {ex : XD} (g : α → D) (st : σ → DEnv) (step : σ → α → σ)
    (hs : ∀ (x : σ) (a : α) (R : DEnv → Prop), gt (g a) (st x) (fun δ1 => s ⟨R, rt, nx, R, ex⟩ δ1) = R (st (step x a))) : ∀ (l : List α) (x : σ), forL gt s ⟨nx, rt, bk, ct, ex⟩ (l.map g) (st x) = nx (st (l.foldl step x))
  | [], x => rfl
  | a :: l, x => by
    show gt (g a) (st x) (fun δ1 => s ⟨forL gt s ⟨nx, rt, bk, ct, ex⟩ (l.map g), rt, nx, forL gt s ⟨nx, rt, bk, ct, ex⟩ (l.map g), ex⟩ δ1) = _
    rw [hs x a, forL_eq g st step hs l]
    rfl
end
section
variable {P : D → Prop} {i j : Int} {x y : D} {ds es : List D}
@[simp ↓] theorem x_dIsN : dIsN x y P = (isNon y = true ∧ P (.bl (isNon x))) := propext Iff.rfl
@[simp ↓] theorem x_dNotN : dNotN x y P = (isNon y = true ∧ P (.bl (!isNon x))) := propext Iff.rfl
@[simp ↓] theorem x_dEq : dEq x y P = onSome (fun b => P (.bl b)) (flatEq x y) := propext Iff.rfl
@[simp ↓] theorem x_dNe : dNe x y P = onSome (fun b => P (.bl (!b))) (flatEq x y) := propext Iff.rfl
@[simp ↓] theorem x_dCat : dCat (.lst ds) (.lst es) P = (few ds.length ∧ few es.length ∧ P (.lst (ds ++ es))) := propext Iff.rfl
@[simp ↓] theorem x_dCatT : dCatT (.tup ds) (.tup es) P = (few ds.length ∧ few es.length ∧ P (.tup (ds ++ es))) := propext Iff.rfl
@[simp ↓] theorem x_dRep : dRep (.lst ds) (.int i) P = (small i ∧ few (ds.length * i.toNat) ∧ P (.lst (List.replicate i.toNat ds).flatten)) := propext Iff.rfl
@[simp ↓] theorem x_dIx : dIx x y P = onI (fun j => ixOf P j x) y := propext Iff.rfl
@[simp ↓] theorem x_dIn {n : Bool} : dIn n x y P = seqOf (fun ds => flatD x = true ∧ ds.all flatD = true ∧ P (.bl (if n then !(ds.any fun y => eqF y x) else ds.any fun y => eqF y x))) y := propext Iff.rfl
@[simp ↓] theorem x_vIn {n : Bool} : vIn n x ds P = (flatD x = true ∧ ds.all flatD = true ∧ P (.bl (if n then !(ds.any fun y => eqF y x) else ds.any fun y => eqF y x))) := propext Iff.rfl
theorem x_vInD {n : Bool} : vInD n x ds P = (okP x ∧ okP (.lst ds) ∧ P (.bl (if n then !((toPs ds).any fun z => PyData.eqv z (toP x)) else (toPs ds).any fun z => PyData.eqv z (toP x)))) := rfl
@[simp ↓] theorem x_dEqD : dEqD x y P = (okP x ∧ okP y ∧ P (.bl (PyData.eqv (toP x) (toP y)))) := propext Iff.rfl
@[simp ↓] theorem x_dNeD : dNeD x y P = (okP x ∧ okP y ∧ P (.bl (!PyData.eqv (toP x) (toP y)))) := propext Iff.rfl
@[simp ↓] theorem x_dInS {a b : Str} : dInS (.str a) (.str b) P = P (.bl (!(Builtin.Str.occurrences b a 0 b.length 1).isEmpty)) := propext Iff.rfl
@[simp ↓] theorem x_cLen : cLen ds P = on1 (lenOf P) ds := propext Iff.rfl
@[simp ↓] theorem x_vLen : vLen ds P = P (.int ds.length) := propext Iff.rfl
@[simp ↓] theorem x_cAbs : cAbs ds P = on1 (onI fun i => P (.int (if i < 0 then -i else i))) ds := propext Iff.rfl
@[simp ↓] theorem x_cMax2 : cMax2 ds P = on2 (fun x y => onI (fun i => onI (fun j => P (.int (if j > i then j else i))) y) x) ds := propext Iff.rfl
@[simp ↓] theorem x_cMin2 : cMin2 ds P = on2 (fun x y => onI (fun i => onI (fun j => P (.int (if j < i then j else i))) y) x) ds := propext Iff.rfl
@[simp ↓] theorem x_cInt : cInt ds P = on1 (intOf P) ds := propext Iff.rfl
@[simp ↓] theorem x_vSum : vSum ds P = onSome (fun ns => P (.int ns.sum)) (dInts ds) := propext Iff.rfl
@[simp ↓] theorem x_vAll : vAll ds P = onSome (fun bs => P (.bl (bs.all id))) (dBls ds) := propext Iff.rfl
@[simp ↓] theorem x_vAny : vAny ds P = onSome (fun bs => P (.bl (bs.any id))) (dBls ds) := propext Iff.rfl
@[simp ↓] theorem x_vTup : vTup ds P = (few ds.length ∧ P (.tup ds)) := propext Iff.rfl
@[simp ↓] theorem x_cMaxT : cMaxT ds P = on1 (onTup fun es => onSome (fun ns => 0 < ns.length ∧ ∀ m, m ∈ ns → (∀ y, y ∈ ns → y ≤ m) → P (.int m)) (dInts es)) ds := propext Iff.rfl
@[simp ↓] theorem x_cLenD : cLenD ds P = on1 (onDck fun ks us => P (.int ks.length)) ds := propext Iff.rfl
end
end Dn
namespace Dn
open PySem PySem.Spec PyProof.Rows L2
section
variable {P : D → Prop} {Q : List D → DEnv → Prop} {δ : DEnv} {d : D} {ds acc : List D}
theorem x_lcn {gt : DGt} {t : DTx} {e : DEx} {vs : List Nat} : lcL gt t e vs Q [] acc δ = Q acc δ := by unfold lcL; rfl
theorem x_lcc {gt : DGt} {t : DTx} {e : DEx} {vs : List Nat} : lcL gt t e vs Q (d :: ds) acc δ = gt d δ fun δ1 => t δ1 (fun b δ2 => if b = true then e δ2 (fun y δ3 => few acc.length ∧ lcL gt t e vs Q ds (acc ++ [y]) (wipeD δ3 vs)) noX else lcL gt t e vs Q ds acc (wipeD δ2 vs)) noX := by
  conv => lhs; unfold lcL
@[simp] theorem x_dBlsn : dBls [] = some [] := rfl
@[simp] theorem x_dBlsc {b : Bool} : dBls (.bl b :: ds) = (dBls ds).map (b :: ·) := rfl
@[simp] theorem x_dIntsn : dInts [] = some [] := rfl
@[simp] theorem x_dIntsc {b : Int} : dInts (.int b :: ds) = (dInts ds).map (b :: ·) := rfl
@[simp] theorem x_few0 : few 0 = True := by simp [few]
@[simp] theorem x_few1 : few 1 = True := by simp [few]
@[simp] theorem x_few2 : few 2 = True := by simp [few]
@[simp] theorem x_few3 : few 3 = True := by simp [few]
@[simp] theorem x_few4 : few 4 = True := by simp [few]
@[simp] theorem x_few5 : few 5 = True := by simp [few]
@[simp] theorem x_few6 : few 6 = True := by simp [few]
@[simp] theorem x_small0 : small 0 = True := by simp [small]
@[simp] theorem x_small3 : small 3 = True := by simp [small]
@[simp] theorem x_small5 : small 5 = True := by simp [small]
@[simp] theorem x_small8 : small 8 = True := by simp [small]
/-- a loop that goes through all, with a word about what is left -/
theorem forL_eqI {α σ : Type} {gt : DGt} {s : DSt} {nx bk ct : DEnv → Prop} {rt : Cell → DEnv → Prop} {ex : XD} (g : α → D) (st : σ → DEnv) (step : σ → α → σ) (I : σ → List α → Prop)
    (hI : ∀ (x : σ) (a : α) (l : List α), I x (a :: l) → I (step x a) l)
    (hs : ∀ (x : σ) (a : α) (l : List α) (R : DEnv → Prop), I x (a :: l) → gt (g a) (st x) (fun δ1 => s ⟨R, rt, nx, R, ex⟩ δ1) = R (st (step x a))) : ∀ (l : List α) (x : σ), I x l → forL gt s ⟨nx, rt, bk, ct, ex⟩ (l.map g) (st x) = nx (st (l.foldl step x))
  | [], x, _ => rfl
  | a :: l, x, h => by
    show gt (g a) (st x) (fun δ1 => s ⟨forL gt s ⟨nx, rt, bk, ct, ex⟩ (l.map g), rt, nx, forL gt s ⟨nx, rt, bk, ct, ex⟩ (l.map g), ex⟩ δ1) = _
    rw [hs x a l _ h, forL_eqI g st step I hI hs l _ (hI x a l h)]
    rfl
/-- a loop that may hand back a value -/
theorem forL_find {α σ : Type} {gt : DGt} {s : DSt} {nx bk ct : DEnv → Prop} {rt : Cell → DEnv → Prop} {ex : XD} (g : α → D) (st : σ → DEnv) (step : σ → α → σ) (f : α → Option Cell) (rc : Cell → Prop) (I : α → Prop)
    (hs : ∀ (x : σ) (a : α) (R : DEnv → Prop), I a → gt (g a) (st x) (fun δ1 => s ⟨R, rt, nx, R, ex⟩ δ1) = match f a with | some c => rc c | none => R (st (step x a))) : ∀ (l : List α) (x : σ), (∀ a ∈ l, I a) → forL gt s ⟨nx, rt, bk, ct, ex⟩ (l.map g) (st x) = match l.findSome? f with | some c => rc c | none => nx (st (l.foldl step x))
  | [], x, _ => rfl
  | a :: l, x, h => by
    show gt (g a) (st x) (fun δ1 => s ⟨forL gt s ⟨nx, rt, bk, ct, ex⟩ (l.map g), rt, nx, forL gt s ⟨nx, rt, bk, ct, ex⟩ (l.map g), ex⟩ δ1) = _
    rw [hs x a _ (h a (List.mem_cons_self ..)), List.findSome?_cons]
    cases f a with
    | some c => rfl
    | none =>
      show forL gt s ⟨nx, rt, bk, ct, ex⟩ (l.map g) (st (step x a)) = _
      rw [forL_find g st step f rc I hs l _ (fun e he => h e (List.mem_cons_of_mem _ he))]
      rfl
theorem enumD_map {α : Type} (g : α → D) (l : List α) : enumD (l.map g) = l.zipIdx.map fun p => .tup [.int (p.2 : Nat), g p.1] := by
  unfold enumD
  rw [List.zipIdx_map, List.map_map]
  rfl
theorem zipD_map {α β : Type} (g : α → D) (h : β → D) (l : List α) (m : List β) : zipD (l.map g) (m.map h) = (l.zip m).map fun p => .tup [g p.1, h p.2] := by
  unfold zipD
  rw [List.zip_map, List.map_map]
  rfl
theorem few_of {n m : Nat} (h : few m) (l : n ≤ m) : few n := Nat.le_trans l h
/-- pairs of ints -/
abbrev pairD (p : Int × Int) : D := .tup [.int p.1, .int p.2]
theorem okP_pair (p : Int × Int) : okP (pairD p) := ⟨by simp [pl, pls], by simp [toP, toPs, SeqAt.shaped, PyData.canLay0, PyData.canLayAll0, PyData.depth, PyData.depthAll]⟩
theorem pls_pairs : ∀ l : List (Int × Int), pls (l.map pairD) = true
  | [] => rfl
  | p :: l => by simp [pls, pl, pls_pairs l]
theorem lay_pairs : ∀ l : List (Int × Int), PyData.canLayAll0 (toPs (l.map pairD)) = true ∧ PyData.depthAll (toPs (l.map pairD)) ≤ 1
  | [] => by simp [toPs, PyData.canLayAll0, PyData.depthAll]
  | p :: l => by
    have h := lay_pairs l
    refine ⟨?_, ?_⟩
    · simp [toP, toPs, PyData.canLay0, PyData.canLayAll0, h.1]
    · simp [toP, toPs, PyData.depth, PyData.depthAll]
      have h2 := h.2
      omega
theorem okP_pairs (l : List (Int × Int)) : okP (.lst (l.map pairD)) := ⟨by simp [pl, pls_pairs], by
  have h := lay_pairs l
  simp only [toP, SeqAt.shaped, PyData.canLay0, PyData.depth, h.1, Bool.true_and, decide_eq_true_eq]
  omega⟩
theorem eqv_pair (p q : Int × Int) : PyData.eqv (toP (pairD p)) (toP (pairD q)) = decide (p = q) := by
  obtain ⟨a, b⟩ := p
  obtain ⟨c, d⟩ := q
  simp [toP, toPs, PyData.eqv, PyData.eqvAll]
  rw [Bool.eq_iff_iff]
  simp
theorem any_pair (q : Int × Int) : ∀ l : List (Int × Int), ((toPs (l.map pairD)).any fun z => PyData.eqv z (toP (pairD q))) = decide (q ∈ l)
  | [] => rfl
  | p :: l => by
    have h := any_pair q l
    show ((toP (pairD p) :: toPs (l.map pairD)).any _) = _
    rw [List.any_cons, h, eqv_pair, Bool.eq_iff_iff]
    simp only [Bool.or_eq_true, decide_eq_true_eq, List.mem_cons]
    constructor
    · rintro (e | e)
      · exact .inl e.symm
      · exact .inr e
    · rintro (e | e)
      · exact .inl e.symm
      · exact .inr e
theorem any_str (x : Str) : ∀ l : List Str, ((l.map D.str).any fun y => eqF y (.str x)) = decide (x ∈ l)
  | [] => rfl
  | p :: l => by
    have h := any_str x l
    rw [List.map_cons, List.any_cons, h, x_efS, Bool.eq_iff_iff]
    simp only [Bool.or_eq_true, beq_iff_eq, decide_eq_true_eq, List.mem_cons]
    constructor
    · rintro (e | e)
      · exact .inl e.symm
      · exact .inr e
    · rintro (e | e)
      · exact .inl e.symm
      · exact .inr e
theorem flat_str : ∀ l : List Str, (l.map D.str).all flatD = true
  | [] => rfl
  | p :: l => by simp [flat_str l]
end
end Dn
namespace Dn
open PySem PySem.Spec PyProof.Rows L2
@[simp] theorem okP_pair' {i j : Int} : okP (.tup [.int i, .int j]) := okP_pair (i, j)
theorem nodup_mid {α : Type} {l r : List α} {b : α} (h : (l ++ b :: r).Nodup) : b ∉ l := fun m => (List.nodup_append.mp h).2.2 b m b (List.mem_cons_self ..) rfl
@[simp ↓] theorem any_pairF {α : Type} (f : α → Int × Int) (q : Int × Int) (l : List α) : ((toPs (l.map fun a => D.tup [.int (f a).1, .int (f a).2])).any fun z => PyData.eqv z (toP (.tup [.int q.1, .int q.2]))) = decide (q ∈ l.map f) := by
  have h := any_pair q (l.map f)
  rw [List.map_map] at h
  exact h
@[simp ↓] theorem any_pairG {α : Type} (f : α → Int × Int) (i j : Int) (l : List α) : ((toPs (l.map fun a => D.tup [.int (f a).1, .int (f a).2])).any fun z => PyData.eqv z (toP (.tup [.int i, .int j]))) = decide ((i, j) ∈ l.map f) := any_pairF f (i, j) l
@[simp ↓] theorem x_vInDp {α : Type} (f : α → Int × Int) (i j : Int) (l : List α) {P : D → Prop} : vInD true (.tup [.int i, .int j]) (l.map fun a => D.tup [.int (f a).1, .int (f a).2]) P = P (.bl (!decide ((i, j) ∈ l.map f))) := by
  rw [x_vInD]
  simp only [okP_pair' , true_and, if_true, any_pairG]
  exact propext ⟨fun z => z.2, fun z => ⟨by
    have h := okP_pairs (l.map f)
    rw [List.map_map] at h
    exact h, z⟩⟩
@[simp ↓] theorem x_vInDq {α : Type} (f : α → Int × Int) (i j : Int) (l : List α) {P : D → Prop} : vInD false (.tup [.int i, .int j]) (l.map fun a => D.tup [.int (f a).1, .int (f a).2]) P = P (.bl (decide ((i, j) ∈ l.map f))) := by
  rw [x_vInD]
  simp only [okP_pair' , true_and, Bool.false_eq_true, if_false, any_pairG]
  exact propext ⟨fun z => z.2, fun z => ⟨by
    have h := okP_pairs (l.map f)
    rw [List.map_map] at h
    exact h, z⟩⟩
@[simp ↓] theorem any_strF {α : Type} (f : α → Str) (x : Str) (l : List α) : ((l.map fun a => D.str (f a)).any fun y => eqF y (.str x)) = decide (x ∈ l.map f) := by
  have h := any_str x (l.map f)
  rw [List.map_map] at h
  exact h
@[simp ↓] theorem flat_strF {α : Type} (f : α → Str) (l : List α) : (l.map fun a => D.str (f a)).all flatD = true := by
  have h := flat_str (l.map f)
  rw [List.map_map] at h
  exact h
@[simp] theorem okP_pairsF {α : Type} (f : α → Int × Int) (l : List α) : okP (.lst (l.map fun a => .tup [.int (f a).1, .int (f a).2])) := by
  have h := okP_pairs (l.map f)
  rw [List.map_map] at h
  exact h
@[simp] theorem x_cut1 {d : D} {ds : List D} : cutD (d :: ds) (some 1) none = ds := by
  simp [cutD, HT.sIx]
end Dn
namespace Dn
open PySem PySem.Spec PyProof.Rows L2
section
variable {α σ : Type} {gt : DGt} {s : DSt} {nx bk ct : DEnv → Prop} {rt : Cell → DEnv → Prop} {ex : XD}
/-- a loop that ends: some state with the word holds behind it -/
theorem forL_ex {gt : DGt} {s : DSt} (g : α → D) (st : σ → DEnv) (I : List α → σ → Prop)
    (hs : ∀ (a : α) (l : List α) (x : σ), I (a :: l) x → ∃ x', I l x' ∧ ∀ (R N : DEnv → Prop) (rt : Cell → DEnv → Prop) (ex : XD), gt (g a) (st x) (fun δ1 => s ⟨R, rt, N, R, ex⟩ δ1) = R (st x')) : ∀ (l : List α) (x : σ), I l x → ∃ x', I [] x' ∧ ∀ (nx bk ct : DEnv → Prop) (rt : Cell → DEnv → Prop) (ex : XD), forL gt s ⟨nx, rt, bk, ct, ex⟩ (l.map g) (st x) = nx (st x')
  | [], x, h => ⟨x, h, fun _ _ _ _ _ => rfl⟩
  | a :: l, x, h => by
    obtain ⟨x', h', e⟩ := hs a l x h
    obtain ⟨x2, h2, e2⟩ := forL_ex g st I hs l x' h'
    exact ⟨x2, h2, fun nx bk ct rt ex => (e _ _ _ _).trans (e2 nx bk ct rt ex)⟩
/-- a loop whose whole comes to V, maybe by a way out -/
theorem forL_val (V : Prop) (g : α → D) (st : σ → DEnv) (I : List α → σ → Prop) (h0 : ∀ x, I [] x → nx (st x) = V)
    (hs : ∀ (a : α) (l : List α) (x : σ), I (a :: l) x → (∃ x', I l x' ∧ ∀ R : DEnv → Prop, gt (g a) (st x) (fun δ1 => s ⟨R, rt, nx, R, ex⟩ δ1) = R (st x')) ∨ ∀ R : DEnv → Prop, gt (g a) (st x) (fun δ1 => s ⟨R, rt, nx, R, ex⟩ δ1) = V) : ∀ (l : List α) (x : σ), I l x → forL gt s ⟨nx, rt, bk, ct, ex⟩ (l.map g) (st x) = V
  | [], x, h => h0 x h
  | a :: l, x, h => by
    rcases hs a l x h with ⟨x', h', e⟩ | e
    · exact (e _).trans (forL_val V g st I h0 hs l x' h')
    · exact e _
/-- a loop: only that it holds -/
theorem forL_to (g : α → D) (I : List α → DEnv → Prop) (h0 : ∀ δ, I [] δ → nx δ)
    (hs : ∀ (a : α) (l : List α) (δ : DEnv) (R : DEnv → Prop), (∀ δ', I l δ' → R δ') → I (a :: l) δ → gt (g a) δ fun δ1 => s ⟨R, rt, nx, R, ex⟩ δ1) : ∀ (l : List α) (δ : DEnv), I l δ → forL gt s ⟨nx, rt, bk, ct, ex⟩ (l.map g) δ
  | [], δ, h => h0 δ h
  | a :: l, δ, h => hs a l δ (forL gt s ⟨nx, rt, bk, ct, ex⟩ (l.map g)) (fun δ' h' => forL_to g I h0 hs l δ' h') h
end
theorem atI_intF {l : List Int} {j : Int} (h0 : 0 ≤ j) (h1 : j < l.length) : atI (l.map D.int) j = some (.int (l.getD j.toNat 0)) := by
  refine atI_of h0 ?_
  rw [List.getElem?_map, List.getD_eq_getElem?_getD]
  obtain ⟨n, rfl⟩ := Int.eq_ofNat_of_zero_le h0
  have hn : n < l.length := by omega
  simp [hn]
end Dn
namespace Dn
open PySem PySem.Spec PyProof.Rows L2
/-- a comprehension whose elements are some things -/
theorem lcL_ex {gt : DGt} {elt : DEx} {vs : List Nat} {δ : DEnv} (P : D → Prop) : ∀ (ds acc : List D), few (acc.length + ds.length) →
    (∀ d ∈ ds, ∃ y, P y ∧ ∀ R : D → DEnv → Prop, gt d δ (fun δ1 => elt δ1 (fun y δ3 => R y (wipeD δ3 vs)) noX) = R y δ) → ∃ ys : List D, (∀ y ∈ ys, P y) ∧ ys.length = ds.length ∧ ∀ Q : List D → DEnv → Prop, lcL gt yesD elt vs Q ds acc δ = Q (acc ++ ys) δ
  | [], acc, _, _ => ⟨[], by simp, rfl, fun Q => by rw [x_lcn, List.append_nil]⟩
  | d :: ds, acc, hn, hs => by
    obtain ⟨y, py, hy⟩ := hs d (List.mem_cons_self ..)
    have ha : few acc.length := by
      unfold few at *
      simp only [List.length_cons] at hn
      omega
    obtain ⟨ys, h1, h2, h3⟩ := lcL_ex P ds (acc ++ [y]) (by unfold few at *; simp only [List.length_append, List.length_cons, List.length_nil] at *; omega) fun e he => hs e (List.mem_cons_of_mem _ he)
    refine ⟨y :: ys, fun z hz => ?_, by simp [h2], fun Q => ?_⟩
    · rcases List.mem_cons.mp hz with rfl | hz
      · exact py
      · exact h1 z hz
    · rw [x_lcc]
      simp only [x_yesD, if_true]
      rw [hy fun y δ3 => few acc.length ∧ lcL gt yesD elt vs Q ds (acc ++ [y]) δ3, h3]
      simp [ha]
/-- a comprehension that leaves things out -/
theorem lcL_sub {gt : DGt} {tst : DTx} {elt : DEx} {vs : List Nat} {δ : DEnv} : ∀ (ds acc : List D), few (acc.length + ds.length) →
    (∀ d ∈ ds, ∃ b : Bool, ∀ (R : D → DEnv → Prop) (R' : DEnv → Prop), gt d δ (fun δ1 => tst δ1 (fun c δ2 => if c = true then elt δ2 (fun y δ3 => R y (wipeD δ3 vs)) noX else R' (wipeD δ2 vs)) noX) = if b = true then R d δ else R' δ) → ∃ ys : List D, ys.Sublist ds ∧ ∀ Q : List D → DEnv → Prop, lcL gt tst elt vs Q ds acc δ = Q (acc ++ ys) δ
  | [], acc, _, _ => ⟨[], .slnil, fun Q => by rw [x_lcn, List.append_nil]⟩
  | d :: ds, acc, hn, hs => by
    obtain ⟨b, hb⟩ := hs d (List.mem_cons_self ..)
    have ha : few acc.length := by
      unfold few at *
      simp only [List.length_cons] at hn
      omega
    cases b with
    | true =>
      obtain ⟨ys, h1, h3⟩ := lcL_sub ds (acc ++ [d]) (by unfold few at *; simp only [List.length_append, List.length_cons, List.length_nil] at *; omega) fun e he => hs e (List.mem_cons_of_mem _ he)
      refine ⟨d :: ys, h1.cons₂ d, fun Q => ?_⟩
      rw [x_lcc, hb (fun y δ3 => few acc.length ∧ lcL gt tst elt vs Q ds (acc ++ [y]) δ3) (fun δ2 => lcL gt tst elt vs Q ds acc δ2), if_pos rfl, h3]
      simp [ha]
    | false =>
      obtain ⟨ys, h1, h3⟩ := lcL_sub ds acc (by unfold few at *; simp only [List.length_append, List.length_cons, List.length_nil] at *; omega) fun e he => hs e (List.mem_cons_of_mem _ he)
      refine ⟨ys, h1.cons d, fun Q => ?_⟩
      rw [x_lcc, hb (fun y δ3 => few acc.length ∧ lcL gt tst elt vs Q ds (acc ++ [y]) δ3) (fun δ2 => lcL gt tst elt vs Q ds acc δ2), if_neg (by simp), h3]
theorem dBls_ex : ∀ {ys : List D}, (∀ y ∈ ys, ∃ b, y = .bl b) → ∃ bs, dBls ys = some bs
  | [], _ => ⟨[], rfl⟩
  | y :: ys, h => by
    obtain ⟨b, rfl⟩ := h y (List.mem_cons_self ..)
    obtain ⟨bs, e⟩ := dBls_ex fun z hz => h z (List.mem_cons_of_mem _ hz)
    exact ⟨b :: bs, by simp [e]⟩
/-- a loop over data that stands for itself -/
theorem forL_exD {σ : Type} {gt : DGt} {s : DSt} (st : σ → DEnv) (I : List D → σ → Prop)
    (hs : ∀ (a : D) (l : List D) (x : σ), I (a :: l) x → ∃ x', I l x' ∧ ∀ (R N : DEnv → Prop) (rt : Cell → DEnv → Prop) (ex : XD), gt a (st x) (fun δ1 => s ⟨R, rt, N, R, ex⟩ δ1) = R (st x')) (l : List D) (x : σ) (h : I l x) : ∃ x', I [] x' ∧ ∀ (nx bk ct : DEnv → Prop) (rt : Cell → DEnv → Prop) (ex : XD), forL gt s ⟨nx, rt, bk, ct, ex⟩ l (st x) = nx (st x') := by
  have := forL_ex (g := fun d : D => d) (gt := gt) (s := s) st I hs l x h
  simpa using this
/- dicts -/
theorem idxG_lt {k : List Key} {acc : Acc} : idxG k acc < acc.length ↔ k ∈ acc.map (·.1) := by
  unfold idxG
  rw [List.findIdx_lt_length]
  simp
theorem ensG_spec (k : List Key) (new : D) (acc : Acc) : ∃ e, (ensG k new acc)[idxG k acc]? = some e ∧ e.1 = k ∧ (e ∈ acc ∨ e = (k, new)) := by
  unfold ensG
  by_cases h : idxG k acc < acc.length
  · rw [if_pos h]
    refine ⟨acc[idxG k acc], List.getElem?_eq_getElem h, ?_, .inl (List.getElem_mem h)⟩
    have := List.findIdx_getElem (w := h)
    exact of_decide_eq_true this
  · rw [if_neg h]
    have h2 : idxG k acc = acc.length := by
      have : idxG k acc ≤ acc.length := List.findIdx_le_length
      omega
    exact ⟨(k, new), by rw [h2]; simp, rfl, .inr rfl⟩
theorem ensG_set {k : List Key} {new d : D} {acc : Acc} : (∀ e ∈ (ensG k new acc).set (idxG k acc) (k, d), e ∈ acc ∨ e = (k, d)) ∧ (∀ x, (x = k ∨ x ∈ acc.map (·.1)) ↔ x ∈ ((ensG k new acc).set (idxG k acc) (k, d)).map (·.1)) ∧ ((ensG k new acc).set (idxG k acc) (k, d)).length ≤ acc.length + 1 := by
  unfold ensG
  by_cases h : idxG k acc < acc.length
  · rw [if_pos h]
    have hk := List.findIdx_getElem (w := h)
    have hk : (acc[idxG k acc]).1 = k := of_decide_eq_true hk
    refine ⟨fun e he => (List.mem_or_eq_of_mem_set he), fun x => ?_, by simp⟩
    have e1 : ((acc.set (idxG k acc) (k, d)).map (·.1)) = acc.map (·.1) := by
      rw [List.map_set]
      refine List.ext_getElem (by simp) fun n h1 h2 => ?_
      rw [List.getElem_set]
      split
      · rename_i e
        subst e
        simp [hk]
      · rfl
    rw [e1]
    refine ⟨fun z => ?_, .inr⟩
    rcases z with rfl | z
    · exact idxG_lt.mp h
    · exact z
  · rw [if_neg h]
    have h2 : idxG k acc = acc.length := by
      have : idxG k acc ≤ acc.length := List.findIdx_le_length
      omega
    rw [h2]
    refine ⟨fun e he => ?_, fun x => ?_, by simp⟩
    · simp at he
      exact he
    · simp
      exact or_comm
theorem lookD_of {k : List Key} {acc : Acc} (h : k ∈ acc.map (·.1)) : ∃ e ∈ acc, e.1 = k ∧ lookD (acc.map (·.1)) (acc.map (·.2)) k = some e.2 := by
  unfold lookD
  rw [List.zip_map']
  have e1 : (acc.map fun a => (a.1, a.2)) = acc := by simp
  rw [e1]
  obtain ⟨e, he, hk⟩ := List.mem_map.mp h
  cases hf : acc.find? fun e => decide (e.1 = k) with
  | none =>
    have := List.find?_eq_none.mp hf e he
    simp [hk] at this
  | some e' => exact ⟨e', List.mem_of_find?_eq_some hf, by simpa using List.find?_some hf, rfl⟩
end Dn

set_option Elab.async false
set_option linter.all false
set_option maxRecDepth 100000
set_option maxHeartbeats 0
namespace Hd
open PySem PySem.Spec PyProof.Rows L2
abbrev PR : Program := PySem.Challenge.pw_waitlifts_k87_whole_where_cabs_are
def top (i : Nat) : Stmt := PR.main.body.getD i (.Pass ⟨0, 0, 0, 0⟩)
abbrev dfn (x : Str) (i : Nat) : He.DefD := ⟨(x, none), x, x, defArgs (top i), defBody (top i), defScope (top i), [], []⟩
abbrev mth (c x q : Str) (i j : Nat) : He.DefD := ⟨(c, some x), x, q, defArgs (inClass (top i) j), defBody (inClass (top i) j), defScope (inClass (top i) j), [], []⟩
def fn0 : List He.DefD := [dfn "is_int" 1, dfn "is_within" 2, dfn "is_number" 3, dfn "is_over_ahead" 15, dfn "meet" 16, dfn "is_name" 33, dfn "are_ticks" 34, dfn "is_ride" 35, dfn "are_doors" 36, dfn "is_cab" 37, dfn "check_cabs" 38, dfn "check_house" 40, dfn "cab_number" 41, dfn "is_stops" 42, dfn "is_right_timetable" 43, dfn "is_timetable" 44, dfn "check_timetable" 45, dfn "is_leg" 46, dfn "floor_at" 47, dfn "are_legs" 48, dfn "is_due" 49, dfn "is_rider" 50, dfn "are_right_riders" 51, dfn "is_riders" 52, dfn "check_riders" 53, dfn "mark_at" 60, dfn "mark_of" 61, dfn "ride_lengths" 62, dfn "stops_of" 63, dfn "rider_marks" 64]
def fn1 : List He.DefD := [dfn "cab_spans" 65, dfn "shared_spans" 66, dfn "check_all_moments" 74, dfn "stop_fault" 75, dfn "cab_fault" 76, dfn "rider_fault" 77, dfn "meet_fault" 78, dfn "fault" 79, dfn "floor_of" 80, dfn "_law_hand" 82, dfn "_law_draw" 83, dfn "_law_any" 84, dfn "_law_is" 85, dfn "_law_house" 86, dfn "_law_timetable" 87, dfn "_law_rides" 88, dfn "_law_length" 89, dfn "_law_moments" 90, dfn "_law_made_house" 91, dfn "_law_ride_fault" 92, dfn "_law_bent" 93, dfn "_law_where" 94, dfn "_law_ticks" 95, dfn "_law_word" 96, dfn "_law_marks_right" 97, dfn "_law_stands_right" 98, dfn "_law_case_right" 99, dfn "law" 100, mth "BadHouse" "__init__" "BadHouse.__init__" 6 0, mth "House" "__init__" "House.__init__" 39 0]
def fn2 : List He.DefD := [mth "House" "parts" "House.parts" 39 1, mth "House" "__eq__" "House.__eq__" 39 2]
def fn : List He.DefD := fn0 ++ fn1 ++ fn2
def fa0 : List He.Fa := [.glo "is_int", .glo "is_within", .glo "is_number", .glo "is_over_ahead", .glo "meet", .glo "is_name", .glo "are_ticks", .glo "is_ride", .glo "are_doors", .glo "is_cab", .glo "check_cabs", .glo "check_house", .glo "cab_number", .glo "is_stops", .glo "is_right_timetable", .glo "is_timetable", .glo "check_timetable", .glo "is_leg", .glo "floor_at", .glo "are_legs", .glo "is_due", .glo "is_rider", .glo "are_right_riders", .glo "is_riders", .glo "check_riders", .glo "mark_at", .glo "mark_of", .glo "ride_lengths", .glo "stops_of", .glo "rider_marks"]
def fa1 : List He.Fa := [.glo "cab_spans", .glo "shared_spans", .glo "check_all_moments", .glo "stop_fault", .glo "cab_fault", .glo "rider_fault", .glo "meet_fault", .glo "fault", .glo "floor_of", .glo "_law_hand", .glo "_law_draw", .glo "_law_any", .glo "_law_is", .glo "_law_house", .glo "_law_timetable", .glo "_law_rides", .glo "_law_length", .glo "_law_moments", .glo "_law_made_house", .glo "_law_ride_fault", .glo "_law_bent", .glo "_law_where", .glo "_law_ticks", .glo "_law_word", .glo "_law_marks_right", .glo "_law_stands_right", .glo "_law_case_right", .glo "law", .glo "CabError", .glo "BadHouse"]
def fa2 : List He.Fa := [.glo "BadMoments", .glo "BadRiders", .glo "BadTimetable", .glo "NoCab", .glo "NoHouse", .glo "NoNumber", .glo "NoStop", .glo "House", .free "ValueError", .free "abs", .free "all", .free "any", .free "bool", .free "enumerate", .free "int", .free "isinstance", .free "len", .free "list", .free "max", .free "min", .free "range", .free "set", .free "sorted", .free "str", .free "sum", .free "tuple", .free "zip", .int "MOST_FLOORS" 30, .int "MOST_TICKS" 1000, .int "MOST_CABS" 4]
def fa3 : List He.Fa := [.int "MOST_SHAFT" 9, .int "MOST_STOPS" 8, .int "MOST_LEGS" 3, .int "MOST_RIDERS" 12, .int "MOST_MOMENT" 1000000, .int "MOST_LETTERS" 8, .str "LETTERS" "abcdefghijklmnopqrstuvwxyz", .str "FLOORS" "floors", .str "RIDE_houses" "ride", .str "DOORS_houses" "doors", .str "TURN" "turn", .str "CABS" "cabs", .glo "WORDS", .int "GO" 0, .int "COME" 1, .int "DOORS_making" 2, .int "SHUT" 3, .str "RIDE_rides" "ride", .str "DOORS_WORD" "doors", .str "READY" "ready", .str "CHANGE" "change", .str "DUE" "due", .str "MEET" "meet", .exc "CabError", .exc "BadMoments", .exc "BadRiders", .exc "BadTimetable", .exc "NoCab", .exc "NoHouse", .exc "NoNumber"]
def fa4 : List He.Fa := [.exc "NoStop", .cls "House", .mkr "House", .noat "House" "cabs", .noat "House" "doors", .noat "House" "floors", .noat "House" "ride", .noat "House" "turn", .meth "House" "parts", .exm "CabError" "CabError" true, .exm "BadHouse" "CabError" true, .exm "BadMoments" "CabError" true, .exm "BadRiders" "CabError" true, .exm "BadTimetable" "CabError" true, .exm "NoCab" "CabError" true, .exm "NoHouse" "CabError" true, .exm "NoNumber" "CabError" true, .exm "NoStop" "CabError" true]
def fa : List He.Fa := fa0 ++ fa1 ++ fa2 ++ fa3 ++ fa4
def loose0 : List Str := ["__name__", "is_int", "is_within", "is_number", "CabError", "BadHouse", "BadMoments", "BadRiders", "BadTimetable", "NoCab", "NoHouse", "NoNumber", "NoStop", "is_over_ahead", "meet", "MOST_FLOORS", "MOST_TICKS", "MOST_CABS", "MOST_SHAFT", "MOST_STOPS", "MOST_LEGS", "MOST_RIDERS", "MOST_MOMENT", "MOST_LETTERS", "LETTERS", "FLOORS", "RIDE_houses", "DOORS_houses", "TURN", "CABS"]
def loose1 : List Str := ["is_name", "are_ticks", "is_ride", "are_doors", "is_cab", "check_cabs", "House", "check_house", "cab_number", "is_stops", "is_right_timetable", "is_timetable", "check_timetable", "is_leg", "floor_at", "are_legs", "is_due", "is_rider", "are_right_riders", "is_riders", "check_riders", "WORDS", "GO", "COME", "DOORS_making", "SHUT", "mark_at", "mark_of", "ride_lengths", "stops_of"]
def loose2 : List Str := ["rider_marks", "cab_spans", "shared_spans", "RIDE_rides", "DOORS_WORD", "READY", "CHANGE", "DUE", "MEET", "check_all_moments", "stop_fault", "cab_fault", "rider_fault", "meet_fault", "fault", "floor_of", "_law_hand", "_law_draw", "_law_any", "_law_is", "_law_house", "_law_timetable", "_law_rides", "_law_length", "_law_moments", "_law_made_house", "_law_ride_fault", "_law_bent", "_law_where", "_law_ticks"]
def loose3 : List Str := ["_law_word", "_law_marks_right", "_law_stands_right", "_law_case_right"]
def loose : List Str := loose0 ++ loose1 ++ loose2 ++ loose3
def tf : List He.Defn := [("cab_spans", none), ("_law_case_right", none)]
def ex (K : PySem.W.Frag) : Bool := (He.tupB K "WORDS" [.str "go", .str "come", .str "doors", .str "shut"] && (Dn.tupN K "WORDS" && (Dn.ownCB K "House" && (Dn.excCB K "BadMoments" && Dn.lamU K))))
-- FACTS
open Dn
structure Zu (K : Fr) (mg : Str → Option Value) (base : Heap) : Prop where
  d : He.SaysD fa fn K
  x : ex K = true
  h : ∃ h : Heap, K.In h ∧ h.Ns mainGlobals mg
  tb : ∀ p ∈ lamDefs, LamX.TabB base mg (He.cT K p).1 (He.cT K p).2
section
variable {K : Fr} {mg : Str → Option Value} {base : Heap}
theorem Zu.g_is_int (z : Zu K mg base) : mg "is_int" = some (.ref (He.ga K "is_int")) := by
  obtain ⟨h, X, G⟩ := z.h
  exact He.glo_ok X G (z.d.fact 0 (f := .glo "is_int") rfl)
theorem Zu.g_is_within (z : Zu K mg base) : mg "is_within" = some (.ref (He.ga K "is_within")) := by
  obtain ⟨h, X, G⟩ := z.h
  exact He.glo_ok X G (z.d.fact 1 (f := .glo "is_within") rfl)
theorem Zu.g_is_number (z : Zu K mg base) : mg "is_number" = some (.ref (He.ga K "is_number")) := by
  obtain ⟨h, X, G⟩ := z.h
  exact He.glo_ok X G (z.d.fact 2 (f := .glo "is_number") rfl)
theorem Zu.g_is_over_ahead (z : Zu K mg base) : mg "is_over_ahead" = some (.ref (He.ga K "is_over_ahead")) := by
  obtain ⟨h, X, G⟩ := z.h
  exact He.glo_ok X G (z.d.fact 3 (f := .glo "is_over_ahead") rfl)
theorem Zu.g_meet (z : Zu K mg base) : mg "meet" = some (.ref (He.ga K "meet")) := by
  obtain ⟨h, X, G⟩ := z.h
  exact He.glo_ok X G (z.d.fact 4 (f := .glo "meet") rfl)
theorem Zu.g_is_name (z : Zu K mg base) : mg "is_name" = some (.ref (He.ga K "is_name")) := by
  obtain ⟨h, X, G⟩ := z.h
  exact He.glo_ok X G (z.d.fact 5 (f := .glo "is_name") rfl)
theorem Zu.g_are_ticks (z : Zu K mg base) : mg "are_ticks" = some (.ref (He.ga K "are_ticks")) := by
  obtain ⟨h, X, G⟩ := z.h
  exact He.glo_ok X G (z.d.fact 6 (f := .glo "are_ticks") rfl)
theorem Zu.g_is_ride (z : Zu K mg base) : mg "is_ride" = some (.ref (He.ga K "is_ride")) := by
  obtain ⟨h, X, G⟩ := z.h
  exact He.glo_ok X G (z.d.fact 7 (f := .glo "is_ride") rfl)
theorem Zu.g_are_doors (z : Zu K mg base) : mg "are_doors" = some (.ref (He.ga K "are_doors")) := by
  obtain ⟨h, X, G⟩ := z.h
  exact He.glo_ok X G (z.d.fact 8 (f := .glo "are_doors") rfl)
theorem Zu.g_is_cab (z : Zu K mg base) : mg "is_cab" = some (.ref (He.ga K "is_cab")) := by
  obtain ⟨h, X, G⟩ := z.h
  exact He.glo_ok X G (z.d.fact 9 (f := .glo "is_cab") rfl)
theorem Zu.g_check_cabs (z : Zu K mg base) : mg "check_cabs" = some (.ref (He.ga K "check_cabs")) := by
  obtain ⟨h, X, G⟩ := z.h
  exact He.glo_ok X G (z.d.fact 10 (f := .glo "check_cabs") rfl)
theorem Zu.g_check_house (z : Zu K mg base) : mg "check_house" = some (.ref (He.ga K "check_house")) := by
  obtain ⟨h, X, G⟩ := z.h
  exact He.glo_ok X G (z.d.fact 11 (f := .glo "check_house") rfl)
theorem Zu.g_cab_number (z : Zu K mg base) : mg "cab_number" = some (.ref (He.ga K "cab_number")) := by
  obtain ⟨h, X, G⟩ := z.h
  exact He.glo_ok X G (z.d.fact 12 (f := .glo "cab_number") rfl)
theorem Zu.g_is_stops (z : Zu K mg base) : mg "is_stops" = some (.ref (He.ga K "is_stops")) := by
  obtain ⟨h, X, G⟩ := z.h
  exact He.glo_ok X G (z.d.fact 13 (f := .glo "is_stops") rfl)
theorem Zu.g_is_right_timetable (z : Zu K mg base) : mg "is_right_timetable" = some (.ref (He.ga K "is_right_timetable")) := by
  obtain ⟨h, X, G⟩ := z.h
  exact He.glo_ok X G (z.d.fact 14 (f := .glo "is_right_timetable") rfl)
theorem Zu.g_is_timetable (z : Zu K mg base) : mg "is_timetable" = some (.ref (He.ga K "is_timetable")) := by
  obtain ⟨h, X, G⟩ := z.h
  exact He.glo_ok X G (z.d.fact 15 (f := .glo "is_timetable") rfl)
theorem Zu.g_check_timetable (z : Zu K mg base) : mg "check_timetable" = some (.ref (He.ga K "check_timetable")) := by
  obtain ⟨h, X, G⟩ := z.h
  exact He.glo_ok X G (z.d.fact 16 (f := .glo "check_timetable") rfl)
theorem Zu.g_is_leg (z : Zu K mg base) : mg "is_leg" = some (.ref (He.ga K "is_leg")) := by
  obtain ⟨h, X, G⟩ := z.h
  exact He.glo_ok X G (z.d.fact 17 (f := .glo "is_leg") rfl)
theorem Zu.g_floor_at (z : Zu K mg base) : mg "floor_at" = some (.ref (He.ga K "floor_at")) := by
  obtain ⟨h, X, G⟩ := z.h
  exact He.glo_ok X G (z.d.fact 18 (f := .glo "floor_at") rfl)
theorem Zu.g_are_legs (z : Zu K mg base) : mg "are_legs" = some (.ref (He.ga K "are_legs")) := by
  obtain ⟨h, X, G⟩ := z.h
  exact He.glo_ok X G (z.d.fact 19 (f := .glo "are_legs") rfl)
theorem Zu.g_is_due (z : Zu K mg base) : mg "is_due" = some (.ref (He.ga K "is_due")) := by
  obtain ⟨h, X, G⟩ := z.h
  exact He.glo_ok X G (z.d.fact 20 (f := .glo "is_due") rfl)
theorem Zu.g_is_rider (z : Zu K mg base) : mg "is_rider" = some (.ref (He.ga K "is_rider")) := by
  obtain ⟨h, X, G⟩ := z.h
  exact He.glo_ok X G (z.d.fact 21 (f := .glo "is_rider") rfl)
theorem Zu.g_are_right_riders (z : Zu K mg base) : mg "are_right_riders" = some (.ref (He.ga K "are_right_riders")) := by
  obtain ⟨h, X, G⟩ := z.h
  exact He.glo_ok X G (z.d.fact 22 (f := .glo "are_right_riders") rfl)
theorem Zu.g_is_riders (z : Zu K mg base) : mg "is_riders" = some (.ref (He.ga K "is_riders")) := by
  obtain ⟨h, X, G⟩ := z.h
  exact He.glo_ok X G (z.d.fact 23 (f := .glo "is_riders") rfl)
theorem Zu.g_check_riders (z : Zu K mg base) : mg "check_riders" = some (.ref (He.ga K "check_riders")) := by
  obtain ⟨h, X, G⟩ := z.h
  exact He.glo_ok X G (z.d.fact 24 (f := .glo "check_riders") rfl)
theorem Zu.g_mark_at (z : Zu K mg base) : mg "mark_at" = some (.ref (He.ga K "mark_at")) := by
  obtain ⟨h, X, G⟩ := z.h
  exact He.glo_ok X G (z.d.fact 25 (f := .glo "mark_at") rfl)
theorem Zu.g_mark_of (z : Zu K mg base) : mg "mark_of" = some (.ref (He.ga K "mark_of")) := by
  obtain ⟨h, X, G⟩ := z.h
  exact He.glo_ok X G (z.d.fact 26 (f := .glo "mark_of") rfl)
theorem Zu.g_ride_lengths (z : Zu K mg base) : mg "ride_lengths" = some (.ref (He.ga K "ride_lengths")) := by
  obtain ⟨h, X, G⟩ := z.h
  exact He.glo_ok X G (z.d.fact 27 (f := .glo "ride_lengths") rfl)
theorem Zu.g_stops_of (z : Zu K mg base) : mg "stops_of" = some (.ref (He.ga K "stops_of")) := by
  obtain ⟨h, X, G⟩ := z.h
  exact He.glo_ok X G (z.d.fact 28 (f := .glo "stops_of") rfl)
theorem Zu.g_rider_marks (z : Zu K mg base) : mg "rider_marks" = some (.ref (He.ga K "rider_marks")) := by
  obtain ⟨h, X, G⟩ := z.h
  exact He.glo_ok X G (z.d.fact 29 (f := .glo "rider_marks") rfl)
theorem Zu.g_cab_spans (z : Zu K mg base) : mg "cab_spans" = some (.ref (He.ga K "cab_spans")) := by
  obtain ⟨h, X, G⟩ := z.h
  exact He.glo_ok X G (z.d.fact 30 (f := .glo "cab_spans") rfl)
theorem Zu.g_shared_spans (z : Zu K mg base) : mg "shared_spans" = some (.ref (He.ga K "shared_spans")) := by
  obtain ⟨h, X, G⟩ := z.h
  exact He.glo_ok X G (z.d.fact 31 (f := .glo "shared_spans") rfl)
theorem Zu.g_check_all_moments (z : Zu K mg base) : mg "check_all_moments" = some (.ref (He.ga K "check_all_moments")) := by
  obtain ⟨h, X, G⟩ := z.h
  exact He.glo_ok X G (z.d.fact 32 (f := .glo "check_all_moments") rfl)
theorem Zu.g_stop_fault (z : Zu K mg base) : mg "stop_fault" = some (.ref (He.ga K "stop_fault")) := by
  obtain ⟨h, X, G⟩ := z.h
  exact He.glo_ok X G (z.d.fact 33 (f := .glo "stop_fault") rfl)
theorem Zu.g_cab_fault (z : Zu K mg base) : mg "cab_fault" = some (.ref (He.ga K "cab_fault")) := by
  obtain ⟨h, X, G⟩ := z.h
  exact He.glo_ok X G (z.d.fact 34 (f := .glo "cab_fault") rfl)
theorem Zu.g_rider_fault (z : Zu K mg base) : mg "rider_fault" = some (.ref (He.ga K "rider_fault")) := by
  obtain ⟨h, X, G⟩ := z.h
  exact He.glo_ok X G (z.d.fact 35 (f := .glo "rider_fault") rfl)
theorem Zu.g_meet_fault (z : Zu K mg base) : mg "meet_fault" = some (.ref (He.ga K "meet_fault")) := by
  obtain ⟨h, X, G⟩ := z.h
  exact He.glo_ok X G (z.d.fact 36 (f := .glo "meet_fault") rfl)
theorem Zu.g_fault (z : Zu K mg base) : mg "fault" = some (.ref (He.ga K "fault")) := by
  obtain ⟨h, X, G⟩ := z.h
  exact He.glo_ok X G (z.d.fact 37 (f := .glo "fault") rfl)
theorem Zu.g_floor_of (z : Zu K mg base) : mg "floor_of" = some (.ref (He.ga K "floor_of")) := by
  obtain ⟨h, X, G⟩ := z.h
  exact He.glo_ok X G (z.d.fact 38 (f := .glo "floor_of") rfl)
theorem Zu.g__law_hand (z : Zu K mg base) : mg "_law_hand" = some (.ref (He.ga K "_law_hand")) := by
  obtain ⟨h, X, G⟩ := z.h
  exact He.glo_ok X G (z.d.fact 39 (f := .glo "_law_hand") rfl)
theorem Zu.g__law_draw (z : Zu K mg base) : mg "_law_draw" = some (.ref (He.ga K "_law_draw")) := by
  obtain ⟨h, X, G⟩ := z.h
  exact He.glo_ok X G (z.d.fact 40 (f := .glo "_law_draw") rfl)
theorem Zu.g__law_any (z : Zu K mg base) : mg "_law_any" = some (.ref (He.ga K "_law_any")) := by
  obtain ⟨h, X, G⟩ := z.h
  exact He.glo_ok X G (z.d.fact 41 (f := .glo "_law_any") rfl)
theorem Zu.g__law_is (z : Zu K mg base) : mg "_law_is" = some (.ref (He.ga K "_law_is")) := by
  obtain ⟨h, X, G⟩ := z.h
  exact He.glo_ok X G (z.d.fact 42 (f := .glo "_law_is") rfl)
theorem Zu.g__law_house (z : Zu K mg base) : mg "_law_house" = some (.ref (He.ga K "_law_house")) := by
  obtain ⟨h, X, G⟩ := z.h
  exact He.glo_ok X G (z.d.fact 43 (f := .glo "_law_house") rfl)
theorem Zu.g__law_timetable (z : Zu K mg base) : mg "_law_timetable" = some (.ref (He.ga K "_law_timetable")) := by
  obtain ⟨h, X, G⟩ := z.h
  exact He.glo_ok X G (z.d.fact 44 (f := .glo "_law_timetable") rfl)
theorem Zu.g__law_rides (z : Zu K mg base) : mg "_law_rides" = some (.ref (He.ga K "_law_rides")) := by
  obtain ⟨h, X, G⟩ := z.h
  exact He.glo_ok X G (z.d.fact 45 (f := .glo "_law_rides") rfl)
theorem Zu.g__law_length (z : Zu K mg base) : mg "_law_length" = some (.ref (He.ga K "_law_length")) := by
  obtain ⟨h, X, G⟩ := z.h
  exact He.glo_ok X G (z.d.fact 46 (f := .glo "_law_length") rfl)
theorem Zu.g__law_moments (z : Zu K mg base) : mg "_law_moments" = some (.ref (He.ga K "_law_moments")) := by
  obtain ⟨h, X, G⟩ := z.h
  exact He.glo_ok X G (z.d.fact 47 (f := .glo "_law_moments") rfl)
theorem Zu.g__law_made_house (z : Zu K mg base) : mg "_law_made_house" = some (.ref (He.ga K "_law_made_house")) := by
  obtain ⟨h, X, G⟩ := z.h
  exact He.glo_ok X G (z.d.fact 48 (f := .glo "_law_made_house") rfl)
theorem Zu.g__law_ride_fault (z : Zu K mg base) : mg "_law_ride_fault" = some (.ref (He.ga K "_law_ride_fault")) := by
  obtain ⟨h, X, G⟩ := z.h
  exact He.glo_ok X G (z.d.fact 49 (f := .glo "_law_ride_fault") rfl)
theorem Zu.g__law_bent (z : Zu K mg base) : mg "_law_bent" = some (.ref (He.ga K "_law_bent")) := by
  obtain ⟨h, X, G⟩ := z.h
  exact He.glo_ok X G (z.d.fact 50 (f := .glo "_law_bent") rfl)
theorem Zu.g__law_where (z : Zu K mg base) : mg "_law_where" = some (.ref (He.ga K "_law_where")) := by
  obtain ⟨h, X, G⟩ := z.h
  exact He.glo_ok X G (z.d.fact 51 (f := .glo "_law_where") rfl)
theorem Zu.g__law_ticks (z : Zu K mg base) : mg "_law_ticks" = some (.ref (He.ga K "_law_ticks")) := by
  obtain ⟨h, X, G⟩ := z.h
  exact He.glo_ok X G (z.d.fact 52 (f := .glo "_law_ticks") rfl)
theorem Zu.g__law_word (z : Zu K mg base) : mg "_law_word" = some (.ref (He.ga K "_law_word")) := by
  obtain ⟨h, X, G⟩ := z.h
  exact He.glo_ok X G (z.d.fact 53 (f := .glo "_law_word") rfl)
theorem Zu.g__law_marks_right (z : Zu K mg base) : mg "_law_marks_right" = some (.ref (He.ga K "_law_marks_right")) := by
  obtain ⟨h, X, G⟩ := z.h
  exact He.glo_ok X G (z.d.fact 54 (f := .glo "_law_marks_right") rfl)
theorem Zu.g__law_stands_right (z : Zu K mg base) : mg "_law_stands_right" = some (.ref (He.ga K "_law_stands_right")) := by
  obtain ⟨h, X, G⟩ := z.h
  exact He.glo_ok X G (z.d.fact 55 (f := .glo "_law_stands_right") rfl)
theorem Zu.g__law_case_right (z : Zu K mg base) : mg "_law_case_right" = some (.ref (He.ga K "_law_case_right")) := by
  obtain ⟨h, X, G⟩ := z.h
  exact He.glo_ok X G (z.d.fact 56 (f := .glo "_law_case_right") rfl)
theorem Zu.g_law (z : Zu K mg base) : mg "law" = some (.ref (He.ga K "law")) := by
  obtain ⟨h, X, G⟩ := z.h
  exact He.glo_ok X G (z.d.fact 57 (f := .glo "law") rfl)
theorem Zu.g_CabError (z : Zu K mg base) : mg "CabError" = some (.ref (He.ga K "CabError")) := by
  obtain ⟨h, X, G⟩ := z.h
  exact He.glo_ok X G (z.d.fact 58 (f := .glo "CabError") rfl)
theorem Zu.g_BadHouse (z : Zu K mg base) : mg "BadHouse" = some (.ref (He.ga K "BadHouse")) := by
  obtain ⟨h, X, G⟩ := z.h
  exact He.glo_ok X G (z.d.fact 59 (f := .glo "BadHouse") rfl)
theorem Zu.g_BadMoments (z : Zu K mg base) : mg "BadMoments" = some (.ref (He.ga K "BadMoments")) := by
  obtain ⟨h, X, G⟩ := z.h
  exact He.glo_ok X G (z.d.fact 60 (f := .glo "BadMoments") rfl)
theorem Zu.g_BadRiders (z : Zu K mg base) : mg "BadRiders" = some (.ref (He.ga K "BadRiders")) := by
  obtain ⟨h, X, G⟩ := z.h
  exact He.glo_ok X G (z.d.fact 61 (f := .glo "BadRiders") rfl)
theorem Zu.g_BadTimetable (z : Zu K mg base) : mg "BadTimetable" = some (.ref (He.ga K "BadTimetable")) := by
  obtain ⟨h, X, G⟩ := z.h
  exact He.glo_ok X G (z.d.fact 62 (f := .glo "BadTimetable") rfl)
theorem Zu.g_NoCab (z : Zu K mg base) : mg "NoCab" = some (.ref (He.ga K "NoCab")) := by
  obtain ⟨h, X, G⟩ := z.h
  exact He.glo_ok X G (z.d.fact 63 (f := .glo "NoCab") rfl)
theorem Zu.g_NoHouse (z : Zu K mg base) : mg "NoHouse" = some (.ref (He.ga K "NoHouse")) := by
  obtain ⟨h, X, G⟩ := z.h
  exact He.glo_ok X G (z.d.fact 64 (f := .glo "NoHouse") rfl)
theorem Zu.g_NoNumber (z : Zu K mg base) : mg "NoNumber" = some (.ref (He.ga K "NoNumber")) := by
  obtain ⟨h, X, G⟩ := z.h
  exact He.glo_ok X G (z.d.fact 65 (f := .glo "NoNumber") rfl)
theorem Zu.g_NoStop (z : Zu K mg base) : mg "NoStop" = some (.ref (He.ga K "NoStop")) := by
  obtain ⟨h, X, G⟩ := z.h
  exact He.glo_ok X G (z.d.fact 66 (f := .glo "NoStop") rfl)
theorem Zu.g_House (z : Zu K mg base) : mg "House" = some (.ref (He.ga K "House")) := by
  obtain ⟨h, X, G⟩ := z.h
  exact He.glo_ok X G (z.d.fact 67 (f := .glo "House") rfl)
theorem Zu.f_ValueError (z : Zu K mg base) : mg "ValueError" = none := by
  obtain ⟨h, X, G⟩ := z.h
  exact He.free_ok X G (z.d.fact 68 (f := .free "ValueError") rfl)
theorem Zu.f_abs (z : Zu K mg base) : mg "abs" = none := by
  obtain ⟨h, X, G⟩ := z.h
  exact He.free_ok X G (z.d.fact 69 (f := .free "abs") rfl)
theorem Zu.f_all (z : Zu K mg base) : mg "all" = none := by
  obtain ⟨h, X, G⟩ := z.h
  exact He.free_ok X G (z.d.fact 70 (f := .free "all") rfl)
theorem Zu.f_any (z : Zu K mg base) : mg "any" = none := by
  obtain ⟨h, X, G⟩ := z.h
  exact He.free_ok X G (z.d.fact 71 (f := .free "any") rfl)
theorem Zu.f_bool (z : Zu K mg base) : mg "bool" = none := by
  obtain ⟨h, X, G⟩ := z.h
  exact He.free_ok X G (z.d.fact 72 (f := .free "bool") rfl)
theorem Zu.f_enumerate (z : Zu K mg base) : mg "enumerate" = none := by
  obtain ⟨h, X, G⟩ := z.h
  exact He.free_ok X G (z.d.fact 73 (f := .free "enumerate") rfl)
theorem Zu.f_int (z : Zu K mg base) : mg "int" = none := by
  obtain ⟨h, X, G⟩ := z.h
  exact He.free_ok X G (z.d.fact 74 (f := .free "int") rfl)
theorem Zu.f_isinstance (z : Zu K mg base) : mg "isinstance" = none := by
  obtain ⟨h, X, G⟩ := z.h
  exact He.free_ok X G (z.d.fact 75 (f := .free "isinstance") rfl)
theorem Zu.f_len (z : Zu K mg base) : mg "len" = none := by
  obtain ⟨h, X, G⟩ := z.h
  exact He.free_ok X G (z.d.fact 76 (f := .free "len") rfl)
theorem Zu.f_list (z : Zu K mg base) : mg "list" = none := by
  obtain ⟨h, X, G⟩ := z.h
  exact He.free_ok X G (z.d.fact 77 (f := .free "list") rfl)
theorem Zu.f_max (z : Zu K mg base) : mg "max" = none := by
  obtain ⟨h, X, G⟩ := z.h
  exact He.free_ok X G (z.d.fact 78 (f := .free "max") rfl)
theorem Zu.f_min (z : Zu K mg base) : mg "min" = none := by
  obtain ⟨h, X, G⟩ := z.h
  exact He.free_ok X G (z.d.fact 79 (f := .free "min") rfl)
theorem Zu.f_range (z : Zu K mg base) : mg "range" = none := by
  obtain ⟨h, X, G⟩ := z.h
  exact He.free_ok X G (z.d.fact 80 (f := .free "range") rfl)
theorem Zu.f_set (z : Zu K mg base) : mg "set" = none := by
  obtain ⟨h, X, G⟩ := z.h
  exact He.free_ok X G (z.d.fact 81 (f := .free "set") rfl)
theorem Zu.f_sorted (z : Zu K mg base) : mg "sorted" = none := by
  obtain ⟨h, X, G⟩ := z.h
  exact He.free_ok X G (z.d.fact 82 (f := .free "sorted") rfl)
theorem Zu.f_str (z : Zu K mg base) : mg "str" = none := by
  obtain ⟨h, X, G⟩ := z.h
  exact He.free_ok X G (z.d.fact 83 (f := .free "str") rfl)
theorem Zu.f_sum (z : Zu K mg base) : mg "sum" = none := by
  obtain ⟨h, X, G⟩ := z.h
  exact He.free_ok X G (z.d.fact 84 (f := .free "sum") rfl)
theorem Zu.f_tuple (z : Zu K mg base) : mg "tuple" = none := by
  obtain ⟨h, X, G⟩ := z.h
  exact He.free_ok X G (z.d.fact 85 (f := .free "tuple") rfl)
theorem Zu.f_zip (z : Zu K mg base) : mg "zip" = none := by
  obtain ⟨h, X, G⟩ := z.h
  exact He.free_ok X G (z.d.fact 86 (f := .free "zip") rfl)
theorem Zu.i_MOST_FLOORS (z : Zu K mg base) : ∃ t, mg "MOST_FLOORS" = some (.int 30 t) := by
  obtain ⟨h, X, G⟩ := z.h
  exact He.int_ok X G (z.d.fact 87 (f := .int "MOST_FLOORS" 30) rfl)
theorem Zu.i_MOST_TICKS (z : Zu K mg base) : ∃ t, mg "MOST_TICKS" = some (.int 1000 t) := by
  obtain ⟨h, X, G⟩ := z.h
  exact He.int_ok X G (z.d.fact 88 (f := .int "MOST_TICKS" 1000) rfl)
theorem Zu.i_MOST_CABS (z : Zu K mg base) : ∃ t, mg "MOST_CABS" = some (.int 4 t) := by
  obtain ⟨h, X, G⟩ := z.h
  exact He.int_ok X G (z.d.fact 89 (f := .int "MOST_CABS" 4) rfl)
theorem Zu.i_MOST_SHAFT (z : Zu K mg base) : ∃ t, mg "MOST_SHAFT" = some (.int 9 t) := by
  obtain ⟨h, X, G⟩ := z.h
  exact He.int_ok X G (z.d.fact 90 (f := .int "MOST_SHAFT" 9) rfl)
theorem Zu.i_MOST_STOPS (z : Zu K mg base) : ∃ t, mg "MOST_STOPS" = some (.int 8 t) := by
  obtain ⟨h, X, G⟩ := z.h
  exact He.int_ok X G (z.d.fact 91 (f := .int "MOST_STOPS" 8) rfl)
theorem Zu.i_MOST_LEGS (z : Zu K mg base) : ∃ t, mg "MOST_LEGS" = some (.int 3 t) := by
  obtain ⟨h, X, G⟩ := z.h
  exact He.int_ok X G (z.d.fact 92 (f := .int "MOST_LEGS" 3) rfl)
theorem Zu.i_MOST_RIDERS (z : Zu K mg base) : ∃ t, mg "MOST_RIDERS" = some (.int 12 t) := by
  obtain ⟨h, X, G⟩ := z.h
  exact He.int_ok X G (z.d.fact 93 (f := .int "MOST_RIDERS" 12) rfl)
theorem Zu.i_MOST_MOMENT (z : Zu K mg base) : ∃ t, mg "MOST_MOMENT" = some (.int 1000000 t) := by
  obtain ⟨h, X, G⟩ := z.h
  exact He.int_ok X G (z.d.fact 94 (f := .int "MOST_MOMENT" 1000000) rfl)
theorem Zu.i_MOST_LETTERS (z : Zu K mg base) : ∃ t, mg "MOST_LETTERS" = some (.int 8 t) := by
  obtain ⟨h, X, G⟩ := z.h
  exact He.int_ok X G (z.d.fact 95 (f := .int "MOST_LETTERS" 8) rfl)
theorem Zu.s_LETTERS (z : Zu K mg base) : ∃ t, mg "LETTERS" = some (.str "abcdefghijklmnopqrstuvwxyz" t) := by
  obtain ⟨h, X, G⟩ := z.h
  exact He.str_ok X G (z.d.fact 96 (f := .str "LETTERS" "abcdefghijklmnopqrstuvwxyz") rfl)
theorem Zu.s_FLOORS (z : Zu K mg base) : ∃ t, mg "FLOORS" = some (.str "floors" t) := by
  obtain ⟨h, X, G⟩ := z.h
  exact He.str_ok X G (z.d.fact 97 (f := .str "FLOORS" "floors") rfl)
theorem Zu.s_RIDE_houses (z : Zu K mg base) : ∃ t, mg "RIDE_houses" = some (.str "ride" t) := by
  obtain ⟨h, X, G⟩ := z.h
  exact He.str_ok X G (z.d.fact 98 (f := .str "RIDE_houses" "ride") rfl)
theorem Zu.s_DOORS_houses (z : Zu K mg base) : ∃ t, mg "DOORS_houses" = some (.str "doors" t) := by
  obtain ⟨h, X, G⟩ := z.h
  exact He.str_ok X G (z.d.fact 99 (f := .str "DOORS_houses" "doors") rfl)
theorem Zu.s_TURN (z : Zu K mg base) : ∃ t, mg "TURN" = some (.str "turn" t) := by
  obtain ⟨h, X, G⟩ := z.h
  exact He.str_ok X G (z.d.fact 100 (f := .str "TURN" "turn") rfl)
theorem Zu.s_CABS (z : Zu K mg base) : ∃ t, mg "CABS" = some (.str "cabs" t) := by
  obtain ⟨h, X, G⟩ := z.h
  exact He.str_ok X G (z.d.fact 101 (f := .str "CABS" "cabs") rfl)
theorem Zu.g_WORDS (z : Zu K mg base) : mg "WORDS" = some (.ref (He.ga K "WORDS")) := by
  obtain ⟨h, X, G⟩ := z.h
  exact He.glo_ok X G (z.d.fact 102 (f := .glo "WORDS") rfl)
theorem Zu.i_GO (z : Zu K mg base) : ∃ t, mg "GO" = some (.int 0 t) := by
  obtain ⟨h, X, G⟩ := z.h
  exact He.int_ok X G (z.d.fact 103 (f := .int "GO" 0) rfl)
theorem Zu.i_COME (z : Zu K mg base) : ∃ t, mg "COME" = some (.int 1 t) := by
  obtain ⟨h, X, G⟩ := z.h
  exact He.int_ok X G (z.d.fact 104 (f := .int "COME" 1) rfl)
theorem Zu.i_DOORS_making (z : Zu K mg base) : ∃ t, mg "DOORS_making" = some (.int 2 t) := by
  obtain ⟨h, X, G⟩ := z.h
  exact He.int_ok X G (z.d.fact 105 (f := .int "DOORS_making" 2) rfl)
theorem Zu.i_SHUT (z : Zu K mg base) : ∃ t, mg "SHUT" = some (.int 3 t) := by
  obtain ⟨h, X, G⟩ := z.h
  exact He.int_ok X G (z.d.fact 106 (f := .int "SHUT" 3) rfl)
theorem Zu.s_RIDE_rides (z : Zu K mg base) : ∃ t, mg "RIDE_rides" = some (.str "ride" t) := by
  obtain ⟨h, X, G⟩ := z.h
  exact He.str_ok X G (z.d.fact 107 (f := .str "RIDE_rides" "ride") rfl)
theorem Zu.s_DOORS_WORD (z : Zu K mg base) : ∃ t, mg "DOORS_WORD" = some (.str "doors" t) := by
  obtain ⟨h, X, G⟩ := z.h
  exact He.str_ok X G (z.d.fact 108 (f := .str "DOORS_WORD" "doors") rfl)
theorem Zu.s_READY (z : Zu K mg base) : ∃ t, mg "READY" = some (.str "ready" t) := by
  obtain ⟨h, X, G⟩ := z.h
  exact He.str_ok X G (z.d.fact 109 (f := .str "READY" "ready") rfl)
theorem Zu.s_CHANGE (z : Zu K mg base) : ∃ t, mg "CHANGE" = some (.str "change" t) := by
  obtain ⟨h, X, G⟩ := z.h
  exact He.str_ok X G (z.d.fact 110 (f := .str "CHANGE" "change") rfl)
theorem Zu.s_DUE (z : Zu K mg base) : ∃ t, mg "DUE" = some (.str "due" t) := by
  obtain ⟨h, X, G⟩ := z.h
  exact He.str_ok X G (z.d.fact 111 (f := .str "DUE" "due") rfl)
theorem Zu.s_MEET (z : Zu K mg base) : ∃ t, mg "MEET" = some (.str "meet" t) := by
  obtain ⟨h, X, G⟩ := z.h
  exact He.str_ok X G (z.d.fact 112 (f := .str "MEET" "meet") rfl)
theorem Zu.e_CabError (z : Zu K mg base) : (He.Fa.exc "CabError").ok K = true := z.d.fact 113 (f := .exc "CabError") rfl
theorem Zu.e_BadMoments (z : Zu K mg base) : (He.Fa.exc "BadMoments").ok K = true := z.d.fact 114 (f := .exc "BadMoments") rfl
theorem Zu.e_BadRiders (z : Zu K mg base) : (He.Fa.exc "BadRiders").ok K = true := z.d.fact 115 (f := .exc "BadRiders") rfl
theorem Zu.e_BadTimetable (z : Zu K mg base) : (He.Fa.exc "BadTimetable").ok K = true := z.d.fact 116 (f := .exc "BadTimetable") rfl
theorem Zu.e_NoCab (z : Zu K mg base) : (He.Fa.exc "NoCab").ok K = true := z.d.fact 117 (f := .exc "NoCab") rfl
theorem Zu.e_NoHouse (z : Zu K mg base) : (He.Fa.exc "NoHouse").ok K = true := z.d.fact 118 (f := .exc "NoHouse") rfl
theorem Zu.e_NoNumber (z : Zu K mg base) : (He.Fa.exc "NoNumber").ok K = true := z.d.fact 119 (f := .exc "NoNumber") rfl
theorem Zu.e_NoStop (z : Zu K mg base) : (He.Fa.exc "NoStop").ok K = true := z.d.fact 120 (f := .exc "NoStop") rfl
theorem Zu.cls_House (z : Zu K mg base) : Cls K (He.ga K "House") := He.cls_ok (z.d.fact 121 (f := .cls "House") rfl)
theorem Zu.mk_House (z : Zu K mg base) : Mk K (He.ga K "House") (He.ma K (He.ga K "House") "__init__") := He.mkr_ok (z.d.fact 122 (f := .mkr "House") rfl)
theorem Zu.na_House_cabs (z : Zu K mg base) : NoAttr K (He.ga K "House") "cabs" := He.noat_ok (z.d.fact 123 (f := .noat "House" "cabs") rfl)
theorem Zu.na_House_doors (z : Zu K mg base) : NoAttr K (He.ga K "House") "doors" := He.noat_ok (z.d.fact 124 (f := .noat "House" "doors") rfl)
theorem Zu.na_House_floors (z : Zu K mg base) : NoAttr K (He.ga K "House") "floors" := He.noat_ok (z.d.fact 125 (f := .noat "House" "floors") rfl)
theorem Zu.na_House_ride (z : Zu K mg base) : NoAttr K (He.ga K "House") "ride" := He.noat_ok (z.d.fact 126 (f := .noat "House" "ride") rfl)
theorem Zu.na_House_turn (z : Zu K mg base) : NoAttr K (He.ga K "House") "turn" := He.noat_ok (z.d.fact 127 (f := .noat "House" "turn") rfl)
theorem Zu.x_CabError_CabError (z : Zu K mg base) : PySem.W.exmOne K (.ref (He.ga K "CabError")) (.ref (He.ga K "CabError")) = some true := He.exm_ok (z.d.fact 129 (f := .exm "CabError" "CabError" true) rfl)
theorem Zu.x_BadHouse_CabError (z : Zu K mg base) : PySem.W.exmOne K (.ref (He.ga K "BadHouse")) (.ref (He.ga K "CabError")) = some true := He.exm_ok (z.d.fact 130 (f := .exm "BadHouse" "CabError" true) rfl)
theorem Zu.x_BadMoments_CabError (z : Zu K mg base) : PySem.W.exmOne K (.ref (He.ga K "BadMoments")) (.ref (He.ga K "CabError")) = some true := He.exm_ok (z.d.fact 131 (f := .exm "BadMoments" "CabError" true) rfl)
theorem Zu.x_BadRiders_CabError (z : Zu K mg base) : PySem.W.exmOne K (.ref (He.ga K "BadRiders")) (.ref (He.ga K "CabError")) = some true := He.exm_ok (z.d.fact 132 (f := .exm "BadRiders" "CabError" true) rfl)
theorem Zu.x_BadTimetable_CabError (z : Zu K mg base) : PySem.W.exmOne K (.ref (He.ga K "BadTimetable")) (.ref (He.ga K "CabError")) = some true := He.exm_ok (z.d.fact 133 (f := .exm "BadTimetable" "CabError" true) rfl)
theorem Zu.x_NoCab_CabError (z : Zu K mg base) : PySem.W.exmOne K (.ref (He.ga K "NoCab")) (.ref (He.ga K "CabError")) = some true := He.exm_ok (z.d.fact 134 (f := .exm "NoCab" "CabError" true) rfl)
theorem Zu.x_NoHouse_CabError (z : Zu K mg base) : PySem.W.exmOne K (.ref (He.ga K "NoHouse")) (.ref (He.ga K "CabError")) = some true := He.exm_ok (z.d.fact 135 (f := .exm "NoHouse" "CabError" true) rfl)
theorem Zu.x_NoNumber_CabError (z : Zu K mg base) : PySem.W.exmOne K (.ref (He.ga K "NoNumber")) (.ref (He.ga K "CabError")) = some true := He.exm_ok (z.d.fact 136 (f := .exm "NoNumber" "CabError" true) rfl)
theorem Zu.x_NoStop_CabError (z : Zu K mg base) : PySem.W.exmOne K (.ref (He.ga K "NoStop")) (.ref (He.ga K "CabError")) = some true := He.exm_ok (z.d.fact 137 (f := .exm "NoStop" "CabError" true) rfl)
def n_WORDS : List Str := ["go", "come", "doors", "shut"]
def c_WORDS : List D := n_WORDS.map D.str
theorem Zu.k_WORDS (z : Zu K mg base) : KTup K (He.ga K "WORDS") (n_WORDS.map V.str) := ktup_of fun H => He.tupB_ok ((He.ba z.x).1) H
theorem Zu.r_WORDS (M : Ad) (H : Hp) : Reps K M H c_WORDS (n_WORDS.map V.str) := reps_strs _
theorem Zu.d_WORDS (z : Zu K mg base) : ∃ o, K.lookup (He.ga K "WORDS") = some o ∧ o.cls = .type "tuple" ∧ o.dict = none := tupN_ok ((He.ba (He.ba z.x).2).1)
theorem Zu.own_House (z : Zu K mg base) : OwnC K "House" := ownC_ok z.cls_House ((He.ba (He.ba (He.ba z.x).2).2).1)
theorem Zu.ec_BadMoments (z : Zu K mg base) : ExcC K (He.ga K "BadMoments") ∧ PySem.W.kitOne K (.ref (He.ga K "BadMoments")) (.ref (He.ga K "BadMoments")) = some true ∧ PySem.W.kitOne K (.ref (He.ga K "BadMoments")) (.type "ValueError") = some true := excCB_ok ((He.ba (He.ba (He.ba (He.ba z.x).2).2).2).1)
theorem Zu.lu (z : Zu K mg base) : lamU K = true := (He.ba (He.ba (He.ba (He.ba z.x).2).2).2).2
end
end Hd

set_option Elab.async false
set_option linter.all false
set_option maxRecDepth 100000
set_option maxHeartbeats 0
namespace Hd
open PySem PySem.Spec PyProof.Rows L2 Dn
-- RUN
abbrev R : PySem.W.OpenRow := PySem.W.OpenLaw.row PySem.Challenge.rw_waitlifts_k87_whole_where_cabs_are
abbrev hk : PySem.W.Hook := He.hookX 5 fa fn [] tf ex
def ob (s : PySem.W.SharedT) : He.AlX := He.obsX 5 fa fn [] tf ex (HandSHeadRun.getT s)
theorem ob_eq (s : PySem.W.SharedT) : ob s = hk.obs s.abs := He.obsX_eq (HandSHeadRun.getT_eq s)
theorem run (w : World) : HandSHeadRun.RunEq R (PySem.W.view R.prog [100]) hk ob 9000 loose w := by
  intro os
  kernel_rfl
end Hd

set_option Elab.async false
set_option linter.all false
set_option maxRecDepth 100000
set_option maxHeartbeats 4000000
namespace Hd
open PySem PySem.Spec PyProof.Rows L2 Dn
abbrev FnP (K : Fr) (x : Str) (st : Stmt) (fd : FuncData) : Prop := FunD K x x (defArgs st) (defBody st) (defScope st) [] [] (He.ga K x) fd
section
variable {P : Program} {w : World} {K : Fr} {mg : Str → Option Value} {base : Heap}
/-! is_int: 0 thing -/
abbrev N_is_int : List Str := ["thing"]
def t_is_int : DSt := (retD (andV (isiD .int (vD 0)) (notV (isiD .bool (vD 0)))))
def w_is_int : Wp := wpOf N_is_int 1 t_is_int
theorem e_is_int (d0 : D) {Q : Cell → Prop} {E : Str → List D → Prop} : w_is_int [d0] Q E = t_is_int ⟨fun _ => Q (.val .non), fun c _ => Q c, fun _ => False, fun _ => False, fun x xs _ => E x xs⟩ [.val d0] := propext ⟨fun h => h.2, fun h => ⟨rfl, h⟩⟩
theorem sc_is_int : FnScope N_is_int ["thing"] (defScope (top 1)) := ⟨rfl, rfl, rfl, by decide +kernel, rfl, by decide +kernel, by decide +kernel⟩
theorem ok_is_int (z : Zu K mg base) : DefOk P w K mg base 1 "is_int" ["thing"] (spP K w_is_int) := by
  obtain ⟨fd, F'⟩ := z.d.def_ 0 (d := dfn "is_int" 1) rfl
  have F : FnP K "is_int" (top 1) fd := F'
  have sc := sc_is_int
  refine ⟨fd, def_ok F sc t_is_int (fun cdv A outer s H E g hr tk hp => ?_), F.kp, F.bindsN fun _ _ _ _ _ _ us hl => match us, hl with | [_], _ => rfl⟩
  have hc : (CtxB P w K mg base N_is_int "is_int" (defScope (top 1)) (He.ga K "is_int") cdv A outer s H E).calm = true := rfl
  exact (dss_one (ds_ret (de_and (de_isi (T := .int) rfl z.f_isinstance b_isinstance (de_var (pv 0)) (pe_bltn rfl z.f_int b_int rfl)) (de_one (de_not (de_isi (T := .bool) rfl
    z.f_isinstance b_isinstance (de_var (pv 0)) (pe_bltn rfl z.f_bool b_bool rfl)))))))
/-! is_within: 0 thing, 1 low, 2 high -/
abbrev N_is_within : List Str := ["thing", "low", "high"]
def t_is_within : DSt := (retD (andV (callD w_is_int (acD (vD 0) anD)) (chD dLe dLe (vD 1) (vD 0) (vD 2))))
def w_is_within : Wp := wpOf N_is_within 3 t_is_within
theorem e_is_within (d0 d1 d2 : D) {Q : Cell → Prop} {E : Str → List D → Prop} : w_is_within [d0, d1, d2] Q E = t_is_within ⟨fun _ => Q (.val .non), fun c _ => Q c, fun _ => False, fun _ => False, fun x xs _ => E x xs⟩ [.val d0, .val d1, .val d2] := propext ⟨fun h => h.2, fun h => ⟨rfl, h⟩⟩
theorem sc_is_within : FnScope N_is_within ["thing", "low", "high"] (defScope (top 2)) := ⟨rfl, rfl, rfl, by decide +kernel, rfl, by decide +kernel, by decide +kernel⟩
theorem ok_is_within (z : Zu K mg base) : DefOk P w K mg base 2 "is_within" ["thing", "low", "high"] (spP K w_is_within) := by
  obtain ⟨fd, F'⟩ := z.d.def_ 1 (d := dfn "is_within" 2) rfl
  have F : FnP K "is_within" (top 2) fd := F'
  have sc := sc_is_within
  refine ⟨fd, def_ok F sc t_is_within (fun cdv A outer s H E g hr tk hp => ?_), F.kp, F.bindsN fun _ _ _ _ _ _ us hl => match us, hl with | [_, _, _], _ => rfl⟩
  have hc : (CtxB P w K mg base N_is_within "is_within" (defScope (top 2)) (He.ga K "is_within") cdv A outer s H E).calm = true := rfl
  exact (dss_one (ds_ret (de_and (de_callZ (ok_is_int z) hr rfl z.g_is_int tk (da_cons (de_var (pv 0)) da_nil)) (de_one (de_chain op_le ok_le op_le ok_le (de_var (pv 1)) (de_var (pv
    0)) (de_var (pv 2)))))))
/-! is_number: 0 thing, 1 most -/
abbrev N_is_number : List Str := ["thing", "most"]
def t_is_number : DSt := (retD (andV (callD w_is_int (acD (vD 0) anD)) (andV (opD dGe (vD 0) (cD (.int 0))) (orV (opD dIsN (vD 1) (cD .non)) (opD dLe (vD 0) (vD 1))))))
def w_is_number : Wp := wpOf N_is_number 2 t_is_number
theorem e_is_number (d0 d1 : D) {Q : Cell → Prop} {E : Str → List D → Prop} : w_is_number [d0, d1] Q E = t_is_number ⟨fun _ => Q (.val .non), fun c _ => Q c, fun _ => False, fun _ => False, fun x xs _ => E x xs⟩ [.val d0, .val d1] := propext ⟨fun h => h.2, fun h => ⟨rfl, h⟩⟩
theorem sc_is_number : FnScope N_is_number ["thing", "most"] (defScope (top 3)) := ⟨rfl, rfl, rfl, by decide +kernel, rfl, by decide +kernel, by decide +kernel⟩
theorem ok_is_number (z : Zu K mg base) : DefOk P w K mg base 2 "is_number" ["thing", "most"] (spP K w_is_number) := by
  obtain ⟨fd, F'⟩ := z.d.def_ 2 (d := dfn "is_number" 3) rfl
  have F : FnP K "is_number" (top 3) fd := F'
  have sc := sc_is_number
  refine ⟨fd, def_ok F sc t_is_number (fun cdv A outer s H E g hr tk hp => ?_), F.kp, F.bindsN fun _ _ _ _ _ _ us hl => match us, hl with | [_, _], _ => rfl⟩
  have hc : (CtxB P w K mg base N_is_number "is_number" (defScope (top 3)) (He.ga K "is_number") cdv A outer s H E).calm = true := rfl
  exact (dss_one (ds_ret (de_and (de_callZ (ok_is_int z) hr rfl z.g_is_int tk (da_cons (de_var (pv 0)) da_nil)) (de_and (de_cmp op_ge ok_ge (de_var (pv 0)) de_int (nomark _)) (de_one
    (de_or (de_cmp op_isN ok_isN (de_var (pv 1)) de_non (nomark _)) (de_one (de_cmp op_le ok_le (de_var (pv 0)) (de_var (pv 1)) (nomark _)))))))))
/-! is_over_ahead: 0 hold, 1 other, 2 moments, 3 place, 4 first, 5 last, 6 turn -/
abbrev N_is_over_ahead : List Str := ["hold", "other", "moments", "place", "first", "last", "turn"]
def t_is_over_ahead : DSt := (seqD (asgD (vD 0) (gT 4 (gn1 (gN 3) (gn1 (gN 4) (gn1 (gN 5) (gn1 (gN 6) gn0)))))) (retD (andV (opD dNotN (vD 5) (cD .non)) (andV (opD dNotN (opD dIx
  (vD 2) (vD 5)) (cD .non)) (opD dLe (opD dAdd (opD dIx (vD 2) (vD 5)) (vD 6)) (opD dIx (vD 2) (opD dIx (vD 1) (cD (.int 1)))))))))
def w_is_over_ahead : Wp := wpOf N_is_over_ahead 3 t_is_over_ahead
theorem e_is_over_ahead (d0 d1 d2 : D) {Q : Cell → Prop} {E : Str → List D → Prop} : w_is_over_ahead [d0, d1, d2] Q E = t_is_over_ahead ⟨fun _ => Q (.val .non), fun c _ => Q c, fun _ => False, fun _ => False, fun x xs _ => E x xs⟩ [.val d0, .val d1, .val d2, .emp, .emp, .emp, .emp] := propext ⟨fun h => h.2, fun h => ⟨rfl, h⟩⟩
theorem sc_is_over_ahead : FnScope N_is_over_ahead ["hold", "other", "moments"] (defScope (top 15)) := ⟨rfl, rfl, rfl, by decide +kernel, rfl, by decide +kernel, by decide +kernel⟩
theorem ok_is_over_ahead (z : Zu K mg base) : DefOk P w K mg base 1 "is_over_ahead" ["hold", "other", "moments"] (spP K w_is_over_ahead) := by
  obtain ⟨fd, F'⟩ := z.d.def_ 3 (d := dfn "is_over_ahead" 15) rfl
  have F : FnP K "is_over_ahead" (top 15) fd := F'
  have sc := sc_is_over_ahead
  refine ⟨fd, def_ok F sc t_is_over_ahead (fun cdv A outer s H E g hr tk hp => ?_), F.kp, F.bindsN fun _ _ _ _ _ _ us hl => match us, hl with | [_, _, _], _ => rfl⟩
  have hc : (CtxB P w K mg base N_is_over_ahead "is_over_ahead" (defScope (top 15)) (He.ga K "is_over_ahead") cdv A outer s H E).calm = true := rfl
  exact (dss_cons (ds_asg (de_var (pv 0)) (dg_tup hc (dgs_cons (dg_name (pg_name sc.nd (i := 3) rfl (loc_b rfl))) (dgs_cons (dg_name (pg_name sc.nd (i := 4) rfl (loc_b rfl)))
    (dgs_cons (dg_name (pg_name sc.nd (i := 5) rfl (loc_b rfl))) (dgs_cons (dg_name (pg_name sc.nd (i := 6) rfl (loc_b rfl))) dgs_nil)))))) (dss_one (ds_ret (de_and (de_cmp op_notN
    ok_notN (de_var (pv 5)) de_non (nomark _)) (de_and (de_cmp op_notN ok_notN (de_ix (de_var (pv 2)) (de_var (pv 5)) (fun _ _ => rfl)) de_non (nomark _)) (de_one (de_cmp op_le ok_le
    (de_op op_add ok_add (de_ix (de_var (pv 2)) (de_var (pv 5)) (fun _ _ => rfl)) (de_var (pv 6))) (de_ix (de_var (pv 2)) (de_ix (de_var (pv 1)) de_int (fun _ _ => rfl)) (fun _ _ =>
    rfl)) (nomark _))))))))
/-! meet: 0 one, 1 other, 2 moments -/
abbrev N_meet : List Str := ["one", "other", "moments"]
def t_meet : DSt := (retD (andV (notV (callD w_is_over_ahead (acD (vD 0) (acD (vD 1) (acD (vD 2) anD))))) (notV (callD w_is_over_ahead (acD (vD 1) (acD (vD 0) (acD (vD 2) anD)))))))
def w_meet : Wp := wpOf N_meet 3 t_meet
theorem e_meet (d0 d1 d2 : D) {Q : Cell → Prop} {E : Str → List D → Prop} : w_meet [d0, d1, d2] Q E = t_meet ⟨fun _ => Q (.val .non), fun c _ => Q c, fun _ => False, fun _ => False, fun x xs _ => E x xs⟩ [.val d0, .val d1, .val d2] := propext ⟨fun h => h.2, fun h => ⟨rfl, h⟩⟩
theorem sc_meet : FnScope N_meet ["one", "other", "moments"] (defScope (top 16)) := ⟨rfl, rfl, rfl, by decide +kernel, rfl, by decide +kernel, by decide +kernel⟩
theorem ok_meet (z : Zu K mg base) : DefOk P w K mg base 2 "meet" ["one", "other", "moments"] (spP K w_meet) := by
  obtain ⟨fd, F'⟩ := z.d.def_ 4 (d := dfn "meet" 16) rfl
  have F : FnP K "meet" (top 16) fd := F'
  have sc := sc_meet
  refine ⟨fd, def_ok F sc t_meet (fun cdv A outer s H E g hr tk hp => ?_), F.kp, F.bindsN fun _ _ _ _ _ _ us hl => match us, hl with | [_, _, _], _ => rfl⟩
  have hc : (CtxB P w K mg base N_meet "meet" (defScope (top 16)) (He.ga K "meet") cdv A outer s H E).calm = true := rfl
  exact (dss_one (ds_ret (de_and (de_not (de_callZ (ok_is_over_ahead z) hr rfl z.g_is_over_ahead tk (da_cons (de_var (pv 0)) (da_cons (de_var (pv 1)) (da_cons (de_var (pv 2))
    da_nil))))) (de_one (de_not (de_callZ (ok_is_over_ahead z) hr rfl z.g_is_over_ahead tk (da_cons (de_var (pv 1)) (da_cons (de_var (pv 0)) (da_cons (de_var (pv 2)) da_nil)))))))))
/-! is_name: 0 thing, 1 letter -/
abbrev N_is_name : List Str := ["thing", "letter"]
def t_is_name : DSt := (seqD (ifS (orD (notD (tD (isiD .str (vD 0)))) (notD (tD (chD dLe dLe (cD (.int 1)) (callBD cLen (acD (vD 0) anD)) (cD (.int 8)))))) (retD (cD (.bl false)))
  nextD) (retD (viewD vAll (lstV (frD (lcF (isD (vD 0)) (gN 1) yesD (opD dInS (vD 1) (cD (.str "abcdefghijklmnopqrstuvwxyz"))) [1]))))))
def w_is_name : Wp := wpOf N_is_name 1 t_is_name
theorem e_is_name (d0 : D) {Q : Cell → Prop} {E : Str → List D → Prop} : w_is_name [d0] Q E = t_is_name ⟨fun _ => Q (.val .non), fun c _ => Q c, fun _ => False, fun _ => False, fun x xs _ => E x xs⟩ [.val d0, .emp] := propext ⟨fun h => h.2, fun h => ⟨rfl, h⟩⟩
theorem sc_is_name : FnScope N_is_name ["thing"] (defScope (top 33)) := ⟨rfl, rfl, rfl, by decide +kernel, rfl, by decide +kernel, by decide +kernel⟩
theorem ok_is_name (z : Zu K mg base) : DefOk P w K mg base 1 "is_name" ["thing"] (spP K w_is_name) := by
  obtain ⟨fd, F'⟩ := z.d.def_ 5 (d := dfn "is_name" 33) rfl
  have F : FnP K "is_name" (top 33) fd := F'
  have sc := sc_is_name
  refine ⟨fd, def_ok F sc t_is_name (fun cdv A outer s H E g hr tk hp => ?_), F.kp, F.bindsN fun _ _ _ _ _ _ us hl => match us, hl with | [_], _ => rfl⟩
  have hc : (CtxB P w K mg base N_is_name "is_name" (defScope (top 33)) (He.ga K "is_name") cdv A outer s H E).calm = true := rfl
  exact (dss_cons (ds_if (DW.dt (dw_or (dt_not (dt_val (de_isi (T := .str) rfl z.f_isinstance b_isinstance (de_var (pv 0)) (pe_bltn rfl z.f_str b_str rfl)))) (dw_or1 (dt_not (dt_chain
    op_le ok_le op_le ok_le de_int (de_callB call_len ok_len rfl z.f_len b_len (da_cons (de_var (pv 0)) da_nil)) (de_globI (i := 8) rfl z.i_MOST_LETTERS)))))) (dss_one (ds_ret de_bl))
    dss_nil) (dss_one (ds_ret (de_viewB (cr_all hc) ok_all rfl z.f_all b_all (DE.view (DF.de (df_lc hc sc.nd (di_str (de_var (pv 0))) (own := [("letter", 1)]) (blkOk_by (by
    kernel_rfl)) (by decide) (fun s' H' C cl fp => (dg_name (pg_name sc.nd (i := 1) rfl (loc_b rfl)))) (fun s' H' C cl fp => dts_nil) (fun s' H' C cl fp => (de_cmp op_in_str ok_inS
    (de_var (pv 1)) (de_globS (i := "abcdefghijklmnopqrstuvwxyz") rfl z.s_LETTERS) (by rfl))))))))))
/-! are_ticks: 0 thing, 1 many, 2 part -/
abbrev N_are_ticks : List Str := ["thing", "many", "part"]
def t_are_ticks : DSt := (retD (andV (isiD .tuple (vD 0)) (andV (opD dEq (callBD cLen (acD (vD 0) anD)) (vD 1)) (viewD vAll (lstV (frD (lcF (itD (vD 0)) (gN 2) yesD (callD
  w_is_number (acD (vD 2) (acD (cD (.int 1000)) anD))) [2])))))))
def w_are_ticks : Wp := wpOf N_are_ticks 2 t_are_ticks
theorem e_are_ticks (d0 d1 : D) {Q : Cell → Prop} {E : Str → List D → Prop} : w_are_ticks [d0, d1] Q E = t_are_ticks ⟨fun _ => Q (.val .non), fun c _ => Q c, fun _ => False, fun _ => False, fun x xs _ => E x xs⟩ [.val d0, .val d1, .emp] := propext ⟨fun h => h.2, fun h => ⟨rfl, h⟩⟩
theorem sc_are_ticks : FnScope N_are_ticks ["thing", "many"] (defScope (top 34)) := ⟨rfl, rfl, rfl, by decide +kernel, rfl, by decide +kernel, by decide +kernel⟩
theorem ok_are_ticks (z : Zu K mg base) : DefOk P w K mg base 3 "are_ticks" ["thing", "many"] (spP K w_are_ticks) := by
  obtain ⟨fd, F'⟩ := z.d.def_ 6 (d := dfn "are_ticks" 34) rfl
  have F : FnP K "are_ticks" (top 34) fd := F'
  have sc := sc_are_ticks
  refine ⟨fd, def_ok F sc t_are_ticks (fun cdv A outer s H E g hr tk hp => ?_), F.kp, F.bindsN fun _ _ _ _ _ _ us hl => match us, hl with | [_, _], _ => rfl⟩
  have hc : (CtxB P w K mg base N_are_ticks "are_ticks" (defScope (top 34)) (He.ga K "are_ticks") cdv A outer s H E).calm = true := rfl
  exact (dss_one (ds_ret (de_and (de_isi (T := .tuple) rfl z.f_isinstance b_isinstance (de_var (pv 0)) (pe_bltn rfl z.f_tuple b_tuple rfl)) (de_and (de_cmp op_eq ok_eq (de_callB
    call_len ok_len rfl z.f_len b_len (da_cons (de_var (pv 0)) da_nil)) (de_var (pv 1)) (nomark _)) (de_one (de_viewB (cr_all hc) ok_all rfl z.f_all b_all (DE.view (DF.de (df_lc hc
    sc.nd (di_tup (de_var (pv 0))) (own := [("part", 2)]) (blkOk_by (by kernel_rfl)) (by decide) (fun s' H' C cl fp => (dg_name (pg_name sc.nd (i := 2) rfl (loc_b rfl)))) (fun s' H' C
    cl fp => dts_nil) (fun s' H' C cl fp => (de_callZ (ok_is_number z) hr rfl z.g_is_number takes0 (da_cons (de_var (pv 2)) (da_cons (de_globI (i := 1000) rfl z.i_MOST_TICKS)
    da_nil)))))))))))))
/-! is_ride: 0 thing -/
abbrev N_is_ride : List Str := ["thing"]
def t_is_ride : DSt := (retD (andV (callD w_are_ticks (acD (vD 0) (acD (cD (.int 4)) anD))) (andV (opD dLe (opD dIx (vD 0) (cD (.int 0))) (opD dIx (vD 0) (cD (.int 1)))) (chD dLe
  dLe (cD (.int 1)) (opD dIx (vD 0) (cD (.int 2))) (opD dIx (vD 0) (cD (.int 3)))))))
def w_is_ride : Wp := wpOf N_is_ride 1 t_is_ride
theorem e_is_ride (d0 : D) {Q : Cell → Prop} {E : Str → List D → Prop} : w_is_ride [d0] Q E = t_is_ride ⟨fun _ => Q (.val .non), fun c _ => Q c, fun _ => False, fun _ => False, fun x xs _ => E x xs⟩ [.val d0] := propext ⟨fun h => h.2, fun h => ⟨rfl, h⟩⟩
theorem sc_is_ride : FnScope N_is_ride ["thing"] (defScope (top 35)) := ⟨rfl, rfl, rfl, by decide +kernel, rfl, by decide +kernel, by decide +kernel⟩
theorem ok_is_ride (z : Zu K mg base) : DefOk P w K mg base 4 "is_ride" ["thing"] (spP K w_is_ride) := by
  obtain ⟨fd, F'⟩ := z.d.def_ 7 (d := dfn "is_ride" 35) rfl
  have F : FnP K "is_ride" (top 35) fd := F'
  have sc := sc_is_ride
  refine ⟨fd, def_ok F sc t_is_ride (fun cdv A outer s H E g hr tk hp => ?_), F.kp, F.bindsN fun _ _ _ _ _ _ us hl => match us, hl with | [_], _ => rfl⟩
  have hc : (CtxB P w K mg base N_is_ride "is_ride" (defScope (top 35)) (He.ga K "is_ride") cdv A outer s H E).calm = true := rfl
  exact (dss_one (ds_ret (de_and (de_callZ (ok_are_ticks z) hr rfl z.g_are_ticks tk (da_cons (de_var (pv 0)) (da_cons de_int da_nil))) (de_and (de_cmp op_le ok_le (de_ix (de_var (pv
    0)) de_int (fun _ _ => rfl)) (de_ix (de_var (pv 0)) de_int (fun _ _ => rfl)) (nomark _)) (de_one (de_chain op_le ok_le op_le ok_le de_int (de_ix (de_var (pv 0)) de_int (fun _ _ =>
    rfl)) (de_ix (de_var (pv 0)) de_int (fun _ _ => rfl))))))))
/-! are_doors: 0 thing -/
abbrev N_are_doors : List Str := ["thing"]
def t_are_doors : DSt := (retD (andV (callD w_are_ticks (acD (vD 0) (acD (cD (.int 3)) anD))) (chD dLe dLe (cD (.int 1)) (opD dIx (vD 0) (cD (.int 0))) (opD dIx (vD 0) (cD (.int
  1))))))
def w_are_doors : Wp := wpOf N_are_doors 1 t_are_doors
theorem e_are_doors (d0 : D) {Q : Cell → Prop} {E : Str → List D → Prop} : w_are_doors [d0] Q E = t_are_doors ⟨fun _ => Q (.val .non), fun c _ => Q c, fun _ => False, fun _ => False, fun x xs _ => E x xs⟩ [.val d0] := propext ⟨fun h => h.2, fun h => ⟨rfl, h⟩⟩
theorem sc_are_doors : FnScope N_are_doors ["thing"] (defScope (top 36)) := ⟨rfl, rfl, rfl, by decide +kernel, rfl, by decide +kernel, by decide +kernel⟩
theorem ok_are_doors (z : Zu K mg base) : DefOk P w K mg base 4 "are_doors" ["thing"] (spP K w_are_doors) := by
  obtain ⟨fd, F'⟩ := z.d.def_ 8 (d := dfn "are_doors" 36) rfl
  have F : FnP K "are_doors" (top 36) fd := F'
  have sc := sc_are_doors
  refine ⟨fd, def_ok F sc t_are_doors (fun cdv A outer s H E g hr tk hp => ?_), F.kp, F.bindsN fun _ _ _ _ _ _ us hl => match us, hl with | [_], _ => rfl⟩
  have hc : (CtxB P w K mg base N_are_doors "are_doors" (defScope (top 36)) (He.ga K "are_doors") cdv A outer s H E).calm = true := rfl
  exact (dss_one (ds_ret (de_and (de_callZ (ok_are_ticks z) hr rfl z.g_are_ticks tk (da_cons (de_var (pv 0)) (da_cons de_int da_nil))) (de_one (de_chain op_le ok_le op_le ok_le de_int
    (de_ix (de_var (pv 0)) de_int (fun _ _ => rfl)) (de_ix (de_var (pv 0)) de_int (fun _ _ => rfl)))))))
/-! is_cab: 0 floors, 1 thing -/
abbrev N_is_cab : List Str := ["floors", "thing"]
def t_is_cab : DSt := (seqD (ifS (orD (notD (tD (isiD .tuple (vD 1)))) (orD (tD (opD dNe (callBD cLen (acD (vD 1) anD)) (cD (.int 3)))) (notD (tD (callD w_is_name (acD (opD dIx (vD
  1) (cD (.int 0))) anD)))))) (retD (cD (.bl false))) nextD) (retD (andV (callD w_is_number (acD (opD dIx (vD 1) (cD (.int 1))) (acD (cD (.int 9)) anD))) (callD w_is_number (acD
  (opD dIx (vD 1) (cD (.int 2))) (acD (opD dSub (vD 0) (cD (.int 1))) anD))))))
def w_is_cab : Wp := wpOf N_is_cab 2 t_is_cab
theorem e_is_cab (d0 d1 : D) {Q : Cell → Prop} {E : Str → List D → Prop} : w_is_cab [d0, d1] Q E = t_is_cab ⟨fun _ => Q (.val .non), fun c _ => Q c, fun _ => False, fun _ => False, fun x xs _ => E x xs⟩ [.val d0, .val d1] := propext ⟨fun h => h.2, fun h => ⟨rfl, h⟩⟩
theorem sc_is_cab : FnScope N_is_cab ["floors", "thing"] (defScope (top 37)) := ⟨rfl, rfl, rfl, by decide +kernel, rfl, by decide +kernel, by decide +kernel⟩
theorem ok_is_cab (z : Zu K mg base) : DefOk P w K mg base 3 "is_cab" ["floors", "thing"] (spP K w_is_cab) := by
  obtain ⟨fd, F'⟩ := z.d.def_ 9 (d := dfn "is_cab" 37) rfl
  have F : FnP K "is_cab" (top 37) fd := F'
  have sc := sc_is_cab
  refine ⟨fd, def_ok F sc t_is_cab (fun cdv A outer s H E g hr tk hp => ?_), F.kp, F.bindsN fun _ _ _ _ _ _ us hl => match us, hl with | [_, _], _ => rfl⟩
  have hc : (CtxB P w K mg base N_is_cab "is_cab" (defScope (top 37)) (He.ga K "is_cab") cdv A outer s H E).calm = true := rfl
  exact (dss_cons (ds_if (DW.dt (dw_or (dt_not (dt_val (de_isi (T := .tuple) rfl z.f_isinstance b_isinstance (de_var (pv 1)) (pe_bltn rfl z.f_tuple b_tuple rfl)))) (dw_or (dt_cmp
    op_ne ok_ne (de_callB call_len ok_len rfl z.f_len b_len (da_cons (de_var (pv 1)) da_nil)) de_int (nomark _)) (dw_or1 (dt_not (dt_val (de_callZ (ok_is_name z) hr rfl z.g_is_name tk
    (da_cons (de_ix (de_var (pv 1)) de_int (fun _ _ => rfl)) da_nil)))))))) (dss_one (ds_ret de_bl)) dss_nil) (dss_one (ds_ret (de_and (de_callZ (ok_is_number z) hr rfl z.g_is_number
    tk (da_cons (de_ix (de_var (pv 1)) de_int (fun _ _ => rfl)) (da_cons (de_globI (i := 9) rfl z.i_MOST_SHAFT) da_nil))) (de_one (de_callZ (ok_is_number z) hr rfl z.g_is_number tk
    (da_cons (de_ix (de_var (pv 1)) de_int (fun _ _ => rfl)) (da_cons (de_op op_sub ok_sub (de_var (pv 0)) de_int) da_nil))))))))
/-! check_cabs: 0 floors, 1 cabs, 2 names, 3 places, 4 at, 5 cab -/
abbrev N_check_cabs : List Str := ["floors", "cabs", "names", "places", "at", "cab"]
def s_check_cabs_0 : DSt := (seqD (ifS (orD (tD (opD dGe (vD 4) (cD (.int 4)))) (orD (notD (tD (callD w_is_cab (acD (vD 0) (acD (vD 5) anD))))) (orD (tD (opV (vIn false) (opD dIx
  (vD 5) (cD (.int 0))) (ownV 2))) (tD (opV (vInD false) (slT (vD 5) (soO (cD (.int 1))) noO) (ownV 3)))))) neverS nextD) (seqD (appD 2 (opD dIx (vD 5) (cD (.int 0)))) (appD 3 (slT
  (vD 5) (soO (cD (.int 1))) noO))))
def t_check_cabs : DSt := (seqD (ifS (orD (notD (tD (isiD .tuple (vD 1)))) (tD (opD dEq (callBD cLen (acD (vD 1) anD)) (cD (.int 0))))) neverS nextD) (seqD (parD [2, 3] (moD (lsF
  anD) (moD (lsF anD) mnD))) (forD (ietD (acD (vD 1) anD)) (gT 2 (gn1 (gN 4) (gn1 (gN 5) gn0))) s_check_cabs_0)))
def w_check_cabs : Wp := wpOf N_check_cabs 2 t_check_cabs
theorem e_check_cabs (d0 d1 : D) {Q : Cell → Prop} {E : Str → List D → Prop} : w_check_cabs [d0, d1] Q E = t_check_cabs ⟨fun _ => Q (.val .non), fun c _ => Q c, fun _ => False, fun _ => False, fun x xs _ => E x xs⟩ [.val d0, .val d1, .emp, .emp, .emp, .emp] := propext ⟨fun h => h.2, fun h => ⟨rfl, h⟩⟩
theorem sc_check_cabs : FnScope N_check_cabs ["floors", "cabs"] (defScope (top 38)) := ⟨rfl, rfl, rfl, by decide +kernel, rfl, by decide +kernel, by decide +kernel⟩
theorem ok_check_cabs (z : Zu K mg base) : DefOk P w K mg base 4 "check_cabs" ["floors", "cabs"] (spP K w_check_cabs) := by
  obtain ⟨fd, F'⟩ := z.d.def_ 10 (d := dfn "check_cabs" 38) rfl
  have F : FnP K "check_cabs" (top 38) fd := F'
  have sc := sc_check_cabs
  refine ⟨fd, def_ok F sc t_check_cabs (fun cdv A outer s H E g hr tk hp => ?_), F.kp, F.bindsN fun _ _ _ _ _ _ us hl => match us, hl with | [_, _], _ => rfl⟩
  have hc : (CtxB P w K mg base N_check_cabs "check_cabs" (defScope (top 38)) (He.ga K "check_cabs") cdv A outer s H E).calm = true := rfl
  exact (dss_cons (ds_if (DW.dt (dw_or (dt_not (dt_val (de_isi (T := .tuple) rfl z.f_isinstance b_isinstance (de_var (pv 1)) (pe_bltn rfl z.f_tuple b_tuple rfl)))) (dw_or1 (dt_cmp
    op_eq ok_eq (de_callB call_len ok_len rfl z.f_len b_len (da_cons (de_var (pv 1)) da_nil)) de_int (nomark _))))) (dss_one ds_never) dss_nil) (dss_cons (ds_par hc sc.nd (i := 2) (j
    := 3) rfl rfl (by decide) rfl rfl (dm_own (df_lst da_nil) (dm_own (df_lst da_nil) dm_nil)) (by rfl)) (dss_one (ds_for hp hc (di_enumT rfl z.f_enumerate (da_cons (de_var (pv 1))
    da_nil)) (dg_tup hc (dgs_cons (dg_name (pg_name sc.nd (i := 4) rfl (loc_b rfl))) (dgs_cons (dg_name (pg_name sc.nd (i := 5) rfl (loc_b rfl))) dgs_nil))) (dss_cons (ds_if (DW.dt
    (dw_or (dt_cmp op_ge ok_ge (de_var (pv 4)) (de_globI (i := 4) rfl z.i_MOST_CABS) (nomark _)) (dw_or (dt_not (dt_val (de_callZ (ok_is_cab z) hr rfl z.g_is_cab tk (da_cons (de_var
    (pv 0)) (da_cons (de_var (pv 5)) da_nil))))) (dw_or (dt_cmpV op_in_seq ok_inV (de_ix (de_var (pv 5)) de_int (fun _ _ => rfl)) (dv_own (pv 2)) (by rfl)) (dw_or1 (dt_cmpV (op_inD
    (hu_in hr)) ok_inDV (de_sliceT (de_var (pv 5)) (do_some de_int) do_none) (dv_own (pv 3)) (by rfl))))))) (dss_one ds_never) dss_nil) (dss_cons (ds_app (pv 2) (de_ix (de_var (pv 5))
    de_int (fun _ _ => rfl))) (dss_one (ds_app (pv 3) (de_sliceT (de_var (pv 5)) (do_some de_int) do_none)))))))))
/-! House.__init__: 0 self, 1 floors, 2 ride, 3 doors, 4 turn, 5 cabs -/
abbrev N_init_House : List Str := ["self", "floors", "ride", "doors", "turn", "cabs"]
abbrev rows_House : List (Str × Nat) := [("floors", 1), ("ride", 2), ("doors", 3), ("turn", 4), ("cabs", 5)]
def t_init_House : DSt := (seqD (ifS (notD (tD (callD w_is_within (acD (vD 1) (acD (cD (.int 2)) (acD (cD (.int 30)) anD)))))) neverS nextD) (seqD (ifS (notD (tD (callD w_is_ride
  (acD (vD 2) anD)))) neverS nextD) (seqD (ifS (notD (tD (callD w_are_doors (acD (vD 3) anD)))) neverS nextD) (seqD (ifS (notD (tD (callD w_is_number (acD (vD 4) (acD (cD (.int
  1000)) anD))))) neverS nextD) (seqD (exprD (callD w_check_cabs (acD (vD 1) (acD (vD 5) anD)))) nextD)))))
def w_init_House : WpI := wpIOf N_init_House 5 rows_House t_init_House
theorem sc_init_House : FnScope N_init_House ["self", "floors", "ride", "doors", "turn", "cabs"] (defScope (inClass (top 39) 0)) := ⟨rfl, rfl, rfl, by decide +kernel, rfl, by decide +kernel, by decide +kernel⟩
theorem ok_init_House (z : Zu K mg base) : MakeOk P w K mg base 5 "House" ["self", "floors", "ride", "doors", "turn", "cabs"] w_init_House := by
  obtain ⟨fd, F'⟩ := z.d.def_ 59 (d := mth "House" "__init__" "House.__init__" 39 0) rfl
  have F : FunD K "__init__" "House.__init__" (defArgs (inClass (top 39) 0)) (defBody (inClass (top 39) 0)) (defScope (inClass (top 39) 0)) [] [] (He.ma K (He.ga K "House") "__init__") fd := F'
  have sc := sc_init_House
  refine ⟨fd, z.mk_House, init_ok F sc t_init_House z.cls_House (rows := rows_House) ?na (by decide +kernel) (by decide) (by decide) (fun cdv A outer s H E g hr tk hp => ?_), F.bindsN fun _ _ _ _ _ _ us hl => match us, hl with | [_, _, _, _, _, _], _ => rfl⟩
  case na =>
    intro q hq
    simp only [List.mem_cons, List.not_mem_nil, or_false] at hq
    rcases hq with rfl | rfl | rfl | rfl | rfl
    · exact z.na_House_floors
    · exact z.na_House_ride
    · exact z.na_House_doors
    · exact z.na_House_turn
    · exact z.na_House_cabs
  have hc : (CtxB P w K mg base N_init_House "House.__init__" (defScope (inClass (top 39) 0)) (He.ma K (He.ga K "House") "__init__") cdv A outer s H E).calm = true := rfl
  exact (dsp_cons (ds_if (dt_not (dt_val (de_callZ (ok_is_within z) hr rfl z.g_is_within tk (da_cons (de_var (pv 1)) (da_cons de_int (da_cons (de_globI (i := 30) rfl z.i_MOST_FLOORS)
    da_nil)))))) (dss_one ds_never) dss_nil) (dsp_cons (ds_if (dt_not (dt_val (de_callZ (ok_is_ride z) hr rfl z.g_is_ride tk (da_cons (de_var (pv 2)) da_nil)))) (dss_one ds_never)
    dss_nil) (dsp_cons (ds_if (dt_not (dt_val (de_callZ (ok_are_doors z) hr rfl z.g_are_doors tk (da_cons (de_var (pv 3)) da_nil)))) (dss_one ds_never) dss_nil) (dsp_cons (ds_if
    (dt_not (dt_val (de_callZ (ok_is_number z) hr rfl z.g_is_number tk (da_cons (de_var (pv 4)) (da_cons (de_globI (i := 1000) rfl z.i_MOST_TICKS) da_nil))))) (dss_one ds_never)
    dss_nil) (dsp_cons (ds_expr (de_callZ (ok_check_cabs z) hr rfl z.g_check_cabs tk (da_cons (de_var (pv 1)) (da_cons (de_var (pv 5)) da_nil)))) (dsp_end (init_cons (pv 0) (pv 1)
    (init_cons (pv 0) (pv 2) (init_cons (pv 0) (pv 3) (init_cons (pv 0) (pv 4) (init_cons (pv 0) (pv 5) init_nil)))))))))))
/-! _law_made_house: 0 house -/
abbrev N_law_made_house : List Str := ["house"]
def t_law_made_house : DSt := (retD (makeD "House" w_init_House (acD (opD dIx (vD 0) (cD (.int 0))) (acD (opD dIx (vD 0) (cD (.int 1))) (acD (opD dIx (vD 0) (cD (.int 2))) (acD (opD
  dIx (vD 0) (cD (.int 3))) (acD (opD dIx (vD 0) (cD (.int 4))) anD)))))))
def w_law_made_house : Wp := wpOf N_law_made_house 1 t_law_made_house
theorem e_law_made_house (d0 : D) {Q : Cell → Prop} {E : Str → List D → Prop} : w_law_made_house [d0] Q E = t_law_made_house ⟨fun _ => Q (.val .non), fun c _ => Q c, fun _ => False, fun _ => False, fun x xs _ => E x xs⟩ [.val d0] := propext ⟨fun h => h.2, fun h => ⟨rfl, h⟩⟩
theorem sc_law_made_house : FnScope N_law_made_house ["house"] (defScope (top 91)) := ⟨rfl, rfl, rfl, by decide +kernel, rfl, by decide +kernel, by decide +kernel⟩
theorem ok_law_made_house (z : Zu K mg base) : DefOk P w K mg base 7 "_law_made_house" ["house"] (spP K w_law_made_house) := by
  obtain ⟨fd, F'⟩ := z.d.def_ 48 (d := dfn "_law_made_house" 91) rfl
  have F : FnP K "_law_made_house" (top 91) fd := F'
  have sc := sc_law_made_house
  refine ⟨fd, def_ok F sc t_law_made_house (fun cdv A outer s H E g hr tk hp => ?_), F.kp, F.bindsN fun _ _ _ _ _ _ us hl => match us, hl with | [_], _ => rfl⟩
  have hc : (CtxB P w K mg base N_law_made_house "_law_made_house" (defScope (top 91)) (He.ga K "_law_made_house") cdv A outer s H E).calm = true := rfl
  exact (dss_one (ds_ret (de_makeZ (ok_init_House z) hr rfl z.g_House (da_cons (de_ix (de_var (pv 0)) de_int (fun _ _ => rfl)) (da_cons (de_ix (de_var (pv 0)) de_int (fun _ _ => rfl))
    (da_cons (de_ix (de_var (pv 0)) de_int (fun _ _ => rfl)) (da_cons (de_ix (de_var (pv 0)) de_int (fun _ _ => rfl)) (da_cons (de_ix (de_var (pv 0)) de_int (fun _ _ => rfl))
    da_nil))))))))
/-! check_house: 0 house -/
abbrev N_check_house : List Str := ["house"]
def t_check_house : DSt := (ifS (notD (tD (isoD "House" (vD 0)))) neverS nextD)
def w_check_house : Wp := wpOf N_check_house 1 t_check_house
theorem e_check_house (d0 : D) {Q : Cell → Prop} {E : Str → List D → Prop} : w_check_house [d0] Q E = t_check_house ⟨fun _ => Q (.val .non), fun c _ => Q c, fun _ => False, fun _ => False, fun x xs _ => E x xs⟩ [.val d0] := propext ⟨fun h => h.2, fun h => ⟨rfl, h⟩⟩
theorem sc_check_house : FnScope N_check_house ["house"] (defScope (top 40)) := ⟨rfl, rfl, rfl, by decide +kernel, rfl, by decide +kernel, by decide +kernel⟩
theorem ok_check_house (z : Zu K mg base) : DefOk P w K mg base 1 "check_house" ["house"] (spP K w_check_house) := by
  obtain ⟨fd, F'⟩ := z.d.def_ 11 (d := dfn "check_house" 40) rfl
  have F : FnP K "check_house" (top 40) fd := F'
  have sc := sc_check_house
  refine ⟨fd, def_ok F sc t_check_house (fun cdv A outer s H E g hr tk hp => ?_), F.kp, F.bindsN fun _ _ _ _ _ _ us hl => match us, hl with | [_], _ => rfl⟩
  have hc : (CtxB P w K mg base N_check_house "check_house" (defScope (top 40)) (He.ga K "check_house") cdv A outer s H E).calm = true := rfl
  exact (dss_one (ds_if (dt_not (dt_val (de_iso z.own_House rfl z.f_isinstance b_isinstance (de_var (pv 0)) rfl z.g_House))) (dss_one ds_never) dss_nil))
/-! cab_number: 0 house, 1 name, 2 names, 3 cab -/
abbrev N_cab_number : List Str := ["house", "name", "names", "cab"]
def t_cab_number : DSt := (seqD (asgD (frD (lcF (itD (fldD "House" "cabs" (vD 0))) (gN 3) yesD (opD dIx (vD 3) (cD (.int 0))) [3])) (gN 2)) (retD (ifD (andD (tD (isiD .str (vD 1)))
  (tD (opD (dIn false) (vD 1) (vD 2)))) (ixLD (vD 2) (vD 1)) (cD .non))))
def w_cab_number : Wp := wpOf N_cab_number 2 t_cab_number
theorem e_cab_number (d0 d1 : D) {Q : Cell → Prop} {E : Str → List D → Prop} : w_cab_number [d0, d1] Q E = t_cab_number ⟨fun _ => Q (.val .non), fun c _ => Q c, fun _ => False, fun _ => False, fun x xs _ => E x xs⟩ [.val d0, .val d1, .emp, .emp] := propext ⟨fun h => h.2, fun h => ⟨rfl, h⟩⟩
theorem sc_cab_number : FnScope N_cab_number ["house", "name"] (defScope (top 41)) := ⟨rfl, rfl, rfl, by decide +kernel, rfl, by decide +kernel, by decide +kernel⟩
theorem ok_cab_number (z : Zu K mg base) : DefOk P w K mg base 1 "cab_number" ["house", "name"] (spP K w_cab_number) := by
  obtain ⟨fd, F'⟩ := z.d.def_ 12 (d := dfn "cab_number" 41) rfl
  have F : FnP K "cab_number" (top 41) fd := F'
  have sc := sc_cab_number
  refine ⟨fd, def_ok F sc t_cab_number (fun cdv A outer s H E g hr tk hp => ?_), F.kp, F.bindsN fun _ _ _ _ _ _ us hl => match us, hl with | [_, _], _ => rfl⟩
  have hc : (CtxB P w K mg base N_cab_number "cab_number" (defScope (top 41)) (He.ga K "cab_number") cdv A outer s H E).calm = true := rfl
  exact (dss_cons (ds_lcV (ps_lcZ (i := 2) (y := "names") rfl rfl (by rfl) hc sc.nd (di_tup (de_fld (de_var (pv 0)) z.cls_House z.na_House_cabs (by rfl))) (own := [("cab", 3)])
    (blkOk_by (by kernel_rfl)) (by decide) (fun s' H' C cl fp => (dg_name (pg_name sc.nd (i := 3) rfl (loc_b rfl)))) (fun s' H' C cl fp => dts_nil) (fun s' H' C cl fp => (de_ix
    (de_var (pv 3)) de_int (fun _ _ => rfl))))) (dss_one (ds_ret (de_if (DW.dt (dw_and (dt_val (de_isi (T := .str) rfl z.f_isinstance b_isinstance (de_var (pv 1)) (pe_bltn rfl z.f_str
    b_str rfl))) (dw_and1 (dt_cmp op_in_seq ok_in (de_var (pv 1)) (de_var (pv 2)) (by rfl))))) (de_ixL (de_var (pv 2)) (de_var (pv 1))) de_non))))
/-! is_stops: 0 house, 1 cab, 2 thing, 3 floor, 4 one, 5 other -/
abbrev N_is_stops : List Str := ["house", "cab", "thing", "floor", "one", "other"]
def t_is_stops : DSt := (seqD (ifS (orD (notD (tD (isiD .tuple (vD 2)))) (notD (tD (viewD vAll (lstV (frD (lcF (itD (vD 2)) (gN 3) yesD (callD w_is_number (acD (vD 3) (acD (opD dSub
  (fldD "House" "floors" (vD 0)) (cD (.int 1))) anD))) [3]))))))) (retD (cD (.bl false))) nextD) (retD (viewD vAll (lstV (frD (lcF (izD (acD (opD dCatT (tupD (acD (opD dIx (vD 1)
  (cD (.int 2))) anD)) (vD 2)) (acD (vD 2) anD))) (gT 2 (gn1 (gN 4) (gn1 (gN 5) gn0))) yesD (opD dNe (vD 4) (vD 5)) [4, 5]))))))
def w_is_stops : Wp := wpOf N_is_stops 3 t_is_stops
theorem e_is_stops (d0 d1 d2 : D) {Q : Cell → Prop} {E : Str → List D → Prop} : w_is_stops [d0, d1, d2] Q E = t_is_stops ⟨fun _ => Q (.val .non), fun c _ => Q c, fun _ => False, fun _ => False, fun x xs _ => E x xs⟩ [.val d0, .val d1, .val d2, .emp, .emp, .emp] := propext ⟨fun h => h.2, fun h => ⟨rfl, h⟩⟩
theorem sc_is_stops : FnScope N_is_stops ["house", "cab", "thing"] (defScope (top 42)) := ⟨rfl, rfl, rfl, by decide +kernel, rfl, by decide +kernel, by decide +kernel⟩
theorem ok_is_stops (z : Zu K mg base) : DefOk P w K mg base 3 "is_stops" ["house", "cab", "thing"] (spP K w_is_stops) := by
  obtain ⟨fd, F'⟩ := z.d.def_ 13 (d := dfn "is_stops" 42) rfl
  have F : FnP K "is_stops" (top 42) fd := F'
  have sc := sc_is_stops
  refine ⟨fd, def_ok F sc t_is_stops (fun cdv A outer s H E g hr tk hp => ?_), F.kp, F.bindsN fun _ _ _ _ _ _ us hl => match us, hl with | [_, _, _], _ => rfl⟩
  have hc : (CtxB P w K mg base N_is_stops "is_stops" (defScope (top 42)) (He.ga K "is_stops") cdv A outer s H E).calm = true := rfl
  exact (dss_cons (ds_if (DW.dt (dw_or (dt_not (dt_val (de_isi (T := .tuple) rfl z.f_isinstance b_isinstance (de_var (pv 2)) (pe_bltn rfl z.f_tuple b_tuple rfl)))) (dw_or1 (dt_not
    (dt_val (de_viewB (cr_all hc) ok_all rfl z.f_all b_all (DE.view (DF.de (df_lc hc sc.nd (di_tup (de_var (pv 2))) (own := [("floor", 3)]) (blkOk_by (by kernel_rfl)) (by decide) (fun
    s' H' C cl fp => (dg_name (pg_name sc.nd (i := 3) rfl (loc_b rfl)))) (fun s' H' C cl fp => dts_nil) (fun s' H' C cl fp => (de_callZ (ok_is_number z) hr rfl z.g_is_number takes0
    (da_cons (de_var (pv 3)) (da_cons (de_op op_sub ok_sub (de_fld (de_var (pv 0)) z.cls_House z.na_House_floors (by rfl)) de_int) da_nil))))))))))))) (dss_one (ds_ret de_bl))
    dss_nil) (dss_one (ds_ret (de_viewB (cr_all hc) ok_all rfl z.f_all b_all (DE.view (DF.de (df_lc hc sc.nd (di_zip (fun _ h => RZ.pi_zipA rfl z.f_zip h) (da_cons (de_op op_catA
    ok_catT (de_tup (da_cons (de_ix (de_var (pv 1)) de_int (fun _ _ => rfl)) da_nil)) (de_var (pv 2))) (da_cons (de_var (pv 2)) da_nil))) (own := [("one", 4), ("other", 5)]) (blkOk_by
    (by kernel_rfl)) (by decide) (fun s' H' C cl fp => (dg_tup hc (dgs_cons (dg_name (pg_name sc.nd (i := 4) rfl (loc_b rfl))) (dgs_cons (dg_name (pg_name sc.nd (i := 5) rfl (loc_b
    rfl))) dgs_nil)))) (fun s' H' C cl fp => dts_nil) (fun s' H' C cl fp => (de_cmp op_ne ok_ne (de_var (pv 4)) (de_var (pv 5)) (nomark _))))))))))
/-! is_right_timetable: 0 house, 1 thing, 2 cab, 3 row -/
abbrev N_is_right_timetable : List Str := ["house", "thing", "cab", "row"]
def t_is_right_timetable : DSt := (seqD (ifS (orD (notD (tD (isiD .tuple (vD 1)))) (tD (opD dNe (callBD cLen (acD (vD 1) anD)) (callBD cLen (acD (fldD "House" "cabs" (vD 0))
  anD))))) (retD (cD (.bl false))) nextD) (seqD (ifS (notD (tD (viewD vAll (lstV (frD (lcF (izD (acD (fldD "House" "cabs" (vD 0)) (acD (vD 1) anD))) (gT 2 (gn1 (gN 2) (gn1 (gN 3)
  gn0))) yesD (callD w_is_stops (acD (vD 0) (acD (vD 2) (acD (vD 3) anD)))) [2, 3])))))) (retD (cD (.bl false))) nextD) (retD (opD dLe (viewD vSum (lstV (frD (lcF (itD (vD 1)) (gN
  3) yesD (callBD cLen (acD (vD 3) anD)) [3])))) (cD (.int 8))))))
def w_is_right_timetable : Wp := wpOf N_is_right_timetable 2 t_is_right_timetable
theorem e_is_right_timetable (d0 d1 : D) {Q : Cell → Prop} {E : Str → List D → Prop} : w_is_right_timetable [d0, d1] Q E = t_is_right_timetable ⟨fun _ => Q (.val .non), fun c _ => Q c, fun _ => False, fun _ => False, fun x xs _ => E x xs⟩ [.val d0, .val d1, .emp, .emp] := propext ⟨fun h => h.2, fun h => ⟨rfl, h⟩⟩
theorem sc_is_right_timetable : FnScope N_is_right_timetable ["house", "thing"] (defScope (top 43)) := ⟨rfl, rfl, rfl, by decide +kernel, rfl, by decide +kernel, by decide +kernel⟩
theorem ok_is_right_timetable (z : Zu K mg base) : DefOk P w K mg base 4 "is_right_timetable" ["house", "thing"] (spP K w_is_right_timetable) := by
  obtain ⟨fd, F'⟩ := z.d.def_ 14 (d := dfn "is_right_timetable" 43) rfl
  have F : FnP K "is_right_timetable" (top 43) fd := F'
  have sc := sc_is_right_timetable
  refine ⟨fd, def_ok F sc t_is_right_timetable (fun cdv A outer s H E g hr tk hp => ?_), F.kp, F.bindsN fun _ _ _ _ _ _ us hl => match us, hl with | [_, _], _ => rfl⟩
  have hc : (CtxB P w K mg base N_is_right_timetable "is_right_timetable" (defScope (top 43)) (He.ga K "is_right_timetable") cdv A outer s H E).calm = true := rfl
  exact (dss_cons (ds_if (DW.dt (dw_or (dt_not (dt_val (de_isi (T := .tuple) rfl z.f_isinstance b_isinstance (de_var (pv 1)) (pe_bltn rfl z.f_tuple b_tuple rfl)))) (dw_or1 (dt_cmp
    op_ne ok_ne (de_callB call_len ok_len rfl z.f_len b_len (da_cons (de_var (pv 1)) da_nil)) (de_callB call_len ok_len rfl z.f_len b_len (da_cons (de_fld (de_var (pv 0)) z.cls_House
    z.na_House_cabs (by rfl)) da_nil)) (nomark _))))) (dss_one (ds_ret de_bl)) dss_nil) (dss_cons (ds_if (dt_not (dt_val (de_viewB (cr_all hc) ok_all rfl z.f_all b_all (DE.view (DF.de
    (df_lc hc sc.nd (di_zip (fun _ h => RZ.pi_zipA rfl z.f_zip h) (da_cons (de_fld (de_var (pv 0)) z.cls_House z.na_House_cabs (by rfl)) (da_cons (de_var (pv 1)) da_nil))) (own :=
    [("cab", 2), ("row", 3)]) (blkOk_by (by kernel_rfl)) (by decide) (fun s' H' C cl fp => (dg_tup hc (dgs_cons (dg_name (pg_name sc.nd (i := 2) rfl (loc_b rfl))) (dgs_cons (dg_name
    (pg_name sc.nd (i := 3) rfl (loc_b rfl))) dgs_nil)))) (fun s' H' C cl fp => dts_nil) (fun s' H' C cl fp => (de_callZ (ok_is_stops z) hr rfl z.g_is_stops takes0 (da_cons (de_var
    (pv 0)) (da_cons (de_var (pv 2)) (da_cons (de_var (pv 3)) da_nil))))))))))) (dss_one (ds_ret de_bl)) dss_nil) (dss_one (ds_ret (de_cmp op_le ok_le (de_viewB (cr_sum hc) ok_sum rfl
    z.f_sum b_sum (DE.view (DF.de (df_lc hc sc.nd (di_tup (de_var (pv 1))) (own := [("row", 3)]) (blkOk_by (by kernel_rfl)) (by decide) (fun s' H' C cl fp => (dg_name (pg_name sc.nd
    (i := 3) rfl (loc_b rfl)))) (fun s' H' C cl fp => dts_nil) (fun s' H' C cl fp => (de_callB call_len ok_len rfl z.f_len b_len (da_cons (de_var (pv 3)) da_nil))))))) (de_globI (i :=
    8) rfl z.i_MOST_STOPS) (nomark _))))))
/-! is_timetable: 0 house, 1 thing -/
abbrev N_is_timetable : List Str := ["house", "thing"]
def t_is_timetable : DSt := (seqD (exprD (callD w_check_house (acD (vD 0) anD))) (retD (callD w_is_right_timetable (acD (vD 0) (acD (vD 1) anD)))))
def w_is_timetable : Wp := wpOf N_is_timetable 2 t_is_timetable
theorem e_is_timetable (d0 d1 : D) {Q : Cell → Prop} {E : Str → List D → Prop} : w_is_timetable [d0, d1] Q E = t_is_timetable ⟨fun _ => Q (.val .non), fun c _ => Q c, fun _ => False, fun _ => False, fun x xs _ => E x xs⟩ [.val d0, .val d1] := propext ⟨fun h => h.2, fun h => ⟨rfl, h⟩⟩
theorem sc_is_timetable : FnScope N_is_timetable ["house", "thing"] (defScope (top 44)) := ⟨rfl, rfl, rfl, by decide +kernel, rfl, by decide +kernel, by decide +kernel⟩
theorem ok_is_timetable (z : Zu K mg base) : DefOk P w K mg base 5 "is_timetable" ["house", "thing"] (spP K w_is_timetable) := by
  obtain ⟨fd, F'⟩ := z.d.def_ 15 (d := dfn "is_timetable" 44) rfl
  have F : FnP K "is_timetable" (top 44) fd := F'
  have sc := sc_is_timetable
  refine ⟨fd, def_ok F sc t_is_timetable (fun cdv A outer s H E g hr tk hp => ?_), F.kp, F.bindsN fun _ _ _ _ _ _ us hl => match us, hl with | [_, _], _ => rfl⟩
  have hc : (CtxB P w K mg base N_is_timetable "is_timetable" (defScope (top 44)) (He.ga K "is_timetable") cdv A outer s H E).calm = true := rfl
  exact (dss_cons (ds_expr (de_callZ (ok_check_house z) hr rfl z.g_check_house tk (da_cons (de_var (pv 0)) da_nil))) (dss_one (ds_ret (de_callZ (ok_is_right_timetable z) hr rfl
    z.g_is_right_timetable tk (da_cons (de_var (pv 0)) (da_cons (de_var (pv 1)) da_nil))))))
/-! check_timetable: 0 house, 1 thing -/
abbrev N_check_timetable : List Str := ["house", "thing"]
def t_check_timetable : DSt := (ifS (notD (tD (callD w_is_timetable (acD (vD 0) (acD (vD 1) anD))))) neverS nextD)
def w_check_timetable : Wp := wpOf N_check_timetable 2 t_check_timetable
theorem e_check_timetable (d0 d1 : D) {Q : Cell → Prop} {E : Str → List D → Prop} : w_check_timetable [d0, d1] Q E = t_check_timetable ⟨fun _ => Q (.val .non), fun c _ => Q c, fun _ => False, fun _ => False, fun x xs _ => E x xs⟩ [.val d0, .val d1] := propext ⟨fun h => h.2, fun h => ⟨rfl, h⟩⟩
theorem sc_check_timetable : FnScope N_check_timetable ["house", "thing"] (defScope (top 45)) := ⟨rfl, rfl, rfl, by decide +kernel, rfl, by decide +kernel, by decide +kernel⟩
theorem ok_check_timetable (z : Zu K mg base) : DefOk P w K mg base 6 "check_timetable" ["house", "thing"] (spP K w_check_timetable) := by
  obtain ⟨fd, F'⟩ := z.d.def_ 16 (d := dfn "check_timetable" 45) rfl
  have F : FnP K "check_timetable" (top 45) fd := F'
  have sc := sc_check_timetable
  refine ⟨fd, def_ok F sc t_check_timetable (fun cdv A outer s H E g hr tk hp => ?_), F.kp, F.bindsN fun _ _ _ _ _ _ us hl => match us, hl with | [_, _], _ => rfl⟩
  have hc : (CtxB P w K mg base N_check_timetable "check_timetable" (defScope (top 45)) (He.ga K "check_timetable") cdv A outer s H E).calm = true := rfl
  exact (dss_one (ds_if (dt_not (dt_val (de_callZ (ok_is_timetable z) hr rfl z.g_is_timetable tk (da_cons (de_var (pv 0)) (da_cons (de_var (pv 1)) da_nil))))) (dss_one ds_never)
    dss_nil))
/-! are_right_riders: 0 house, 1 timetable, 2 thing, 3 rider -/
abbrev N_are_right_riders : List Str := ["house", "timetable", "thing", "rider"]
def t_are_right_riders : DSt := (seqD (ifS (orD (notD (tD (isiD .tuple (vD 2)))) (tD (opD dGt (callBD cLen (acD (vD 2) anD)) (cD (.int 12))))) (retD (cD (.bl false))) nextD) (seqD
  (ifS (notD (tD (viewD vAll (lstV (frD (lcF (itD (vD 2)) (gN 3) yesD nD [3])))))) (retD (cD (.bl false))) nextD) (retD (opD dEq (lsetD (frD (lcF (itD (vD 2)) (gN 3) yesD (opD dIx
  (vD 3) (cD (.int 0))) [3]))) (callBD cLen (acD (vD 2) anD))))))
def w_are_right_riders : Wp := wpOf N_are_right_riders 3 t_are_right_riders
theorem e_are_right_riders (d0 d1 d2 : D) {Q : Cell → Prop} {E : Str → List D → Prop} : w_are_right_riders [d0, d1, d2] Q E = t_are_right_riders ⟨fun _ => Q (.val .non), fun c _ => Q c, fun _ => False, fun _ => False, fun x xs _ => E x xs⟩ [.val d0, .val d1, .val d2, .emp] := propext ⟨fun h => h.2, fun h => ⟨rfl, h⟩⟩
theorem sc_are_right_riders : FnScope N_are_right_riders ["house", "timetable", "thing"] (defScope (top 51)) := ⟨rfl, rfl, rfl, by decide +kernel, rfl, by decide +kernel, by decide +kernel⟩
theorem ok_are_right_riders (z : Zu K mg base) : DefOk P w K mg base 1 "are_right_riders" ["house", "timetable", "thing"] (spP K w_are_right_riders) := by
  obtain ⟨fd, F'⟩ := z.d.def_ 22 (d := dfn "are_right_riders" 51) rfl
  have F : FnP K "are_right_riders" (top 51) fd := F'
  have sc := sc_are_right_riders
  refine ⟨fd, def_ok F sc t_are_right_riders (fun cdv A outer s H E g hr tk hp => ?_), F.kp, F.bindsN fun _ _ _ _ _ _ us hl => match us, hl with | [_, _, _], _ => rfl⟩
  have hc : (CtxB P w K mg base N_are_right_riders "are_right_riders" (defScope (top 51)) (He.ga K "are_right_riders") cdv A outer s H E).calm = true := rfl
  exact (dss_cons (ds_if (DW.dt (dw_or (dt_not (dt_val (de_isi (T := .tuple) rfl z.f_isinstance b_isinstance (de_var (pv 2)) (pe_bltn rfl z.f_tuple b_tuple rfl)))) (dw_or1 (dt_cmp
    op_gt ok_gt (de_callB call_len ok_len rfl z.f_len b_len (da_cons (de_var (pv 2)) da_nil)) (de_globI (i := 12) rfl z.i_MOST_RIDERS) (nomark _))))) (dss_one (ds_ret de_bl)) dss_nil)
    (dss_cons (ds_if (dt_not (dt_val (de_viewB (cr_all hc) ok_all rfl z.f_all b_all (DE.view (DF.de (df_lc hc sc.nd (di_tup (de_var (pv 2))) (own := [("rider", 3)]) (blkOk_by (by
    kernel_rfl)) (by decide) (fun s' H' C cl fp => (dg_name (pg_name sc.nd (i := 3) rfl (loc_b rfl)))) (fun s' H' C cl fp => dts_nil) (fun s' H' C cl fp => de_never))))))) (dss_one
    (ds_ret de_bl)) dss_nil) (dss_one (ds_ret (de_cmp op_eq ok_eq (de_lenSet (X := _) hc rfl z.f_len rfl z.f_set (DF.de (df_lc hc sc.nd (di_tup (de_var (pv 2))) (own := [("rider",
    3)]) (blkOk_by (by kernel_rfl)) (by decide) (fun s' H' C cl fp => (dg_name (pg_name sc.nd (i := 3) rfl (loc_b rfl)))) (fun s' H' C cl fp => dts_nil) (fun s' H' C cl fp => (de_ix
    (de_var (pv 3)) de_int (fun _ _ => rfl)))))) (de_callB call_len ok_len rfl z.f_len b_len (da_cons (de_var (pv 2)) da_nil)) (nomark _))))))
/-! is_riders: 0 house, 1 timetable, 2 thing -/
abbrev N_is_riders : List Str := ["house", "timetable", "thing"]
def t_is_riders : DSt := (seqD (exprD (callD w_check_timetable (acD (vD 0) (acD (vD 1) anD)))) (retD (callD w_are_right_riders (acD (vD 0) (acD (vD 1) (acD (vD 2) anD))))))
def w_is_riders : Wp := wpOf N_is_riders 3 t_is_riders
theorem e_is_riders (d0 d1 d2 : D) {Q : Cell → Prop} {E : Str → List D → Prop} : w_is_riders [d0, d1, d2] Q E = t_is_riders ⟨fun _ => Q (.val .non), fun c _ => Q c, fun _ => False, fun _ => False, fun x xs _ => E x xs⟩ [.val d0, .val d1, .val d2] := propext ⟨fun h => h.2, fun h => ⟨rfl, h⟩⟩
theorem sc_is_riders : FnScope N_is_riders ["house", "timetable", "thing"] (defScope (top 52)) := ⟨rfl, rfl, rfl, by decide +kernel, rfl, by decide +kernel, by decide +kernel⟩
theorem ok_is_riders (z : Zu K mg base) : DefOk P w K mg base 7 "is_riders" ["house", "timetable", "thing"] (spP K w_is_riders) := by
  obtain ⟨fd, F'⟩ := z.d.def_ 23 (d := dfn "is_riders" 52) rfl
  have F : FnP K "is_riders" (top 52) fd := F'
  have sc := sc_is_riders
  refine ⟨fd, def_ok F sc t_is_riders (fun cdv A outer s H E g hr tk hp => ?_), F.kp, F.bindsN fun _ _ _ _ _ _ us hl => match us, hl with | [_, _, _], _ => rfl⟩
  have hc : (CtxB P w K mg base N_is_riders "is_riders" (defScope (top 52)) (He.ga K "is_riders") cdv A outer s H E).calm = true := rfl
  exact (dss_cons (ds_expr (de_callZ (ok_check_timetable z) hr rfl z.g_check_timetable tk (da_cons (de_var (pv 0)) (da_cons (de_var (pv 1)) da_nil)))) (dss_one (ds_ret (de_callZ
    (ok_are_right_riders z) hr rfl z.g_are_right_riders tk (da_cons (de_var (pv 0)) (da_cons (de_var (pv 1)) (da_cons (de_var (pv 2)) da_nil)))))))
/-! check_riders: 0 house, 1 timetable, 2 thing -/
abbrev N_check_riders : List Str := ["house", "timetable", "thing"]
def t_check_riders : DSt := (ifS (notD (tD (callD w_is_riders (acD (vD 0) (acD (vD 1) (acD (vD 2) anD)))))) neverS nextD)
def w_check_riders : Wp := wpOf N_check_riders 3 t_check_riders
theorem e_check_riders (d0 d1 d2 : D) {Q : Cell → Prop} {E : Str → List D → Prop} : w_check_riders [d0, d1, d2] Q E = t_check_riders ⟨fun _ => Q (.val .non), fun c _ => Q c, fun _ => False, fun _ => False, fun x xs _ => E x xs⟩ [.val d0, .val d1, .val d2] := propext ⟨fun h => h.2, fun h => ⟨rfl, h⟩⟩
theorem sc_check_riders : FnScope N_check_riders ["house", "timetable", "thing"] (defScope (top 53)) := ⟨rfl, rfl, rfl, by decide +kernel, rfl, by decide +kernel, by decide +kernel⟩
theorem ok_check_riders (z : Zu K mg base) : DefOk P w K mg base 8 "check_riders" ["house", "timetable", "thing"] (spP K w_check_riders) := by
  obtain ⟨fd, F'⟩ := z.d.def_ 24 (d := dfn "check_riders" 53) rfl
  have F : FnP K "check_riders" (top 53) fd := F'
  have sc := sc_check_riders
  refine ⟨fd, def_ok F sc t_check_riders (fun cdv A outer s H E g hr tk hp => ?_), F.kp, F.bindsN fun _ _ _ _ _ _ us hl => match us, hl with | [_, _, _], _ => rfl⟩
  have hc : (CtxB P w K mg base N_check_riders "check_riders" (defScope (top 53)) (He.ga K "check_riders") cdv A outer s H E).calm = true := rfl
  exact (dss_one (ds_if (dt_not (dt_val (de_callZ (ok_is_riders z) hr rfl z.g_is_riders tk (da_cons (de_var (pv 0)) (da_cons (de_var (pv 1)) (da_cons (de_var (pv 2)) da_nil))))))
    (dss_one ds_never) dss_nil))
/-! mark_at: 0 timetable, 1 number, 2 stop, 3 word, 4 row -/
abbrev N_mark_at : List Str := ["timetable", "number", "stop", "word", "row"]
def t_mark_at : DSt := (retD (opD dAdd (opD dAdd (cD (.int 1)) (opD dMul (callBD cLen (acD (cD (.tup c_WORDS)) anD)) (opD dAdd (viewD vSum (lstV (frD (lcF (itD (slT (vD 0) noO (soO
  (vD 1)))) (gN 4) yesD (callBD cLen (acD (vD 4) anD)) [4])))) (vD 2)))) (vD 3)))
def w_mark_at : Wp := wpOf N_mark_at 4 t_mark_at
theorem e_mark_at (d0 d1 d2 d3 : D) {Q : Cell → Prop} {E : Str → List D → Prop} : w_mark_at [d0, d1, d2, d3] Q E = t_mark_at ⟨fun _ => Q (.val .non), fun c _ => Q c, fun _ => False, fun _ => False, fun x xs _ => E x xs⟩ [.val d0, .val d1, .val d2, .val d3, .emp] := propext ⟨fun h => h.2, fun h => ⟨rfl, h⟩⟩
theorem sc_mark_at : FnScope N_mark_at ["timetable", "number", "stop", "word"] (defScope (top 60)) := ⟨rfl, rfl, rfl, by decide +kernel, rfl, by decide +kernel, by decide +kernel⟩
theorem ok_mark_at (z : Zu K mg base) : DefOk P w K mg base 1 "mark_at" ["timetable", "number", "stop", "word"] (spP K w_mark_at) := by
  obtain ⟨fd, F'⟩ := z.d.def_ 25 (d := dfn "mark_at" 60) rfl
  have F : FnP K "mark_at" (top 60) fd := F'
  have sc := sc_mark_at
  refine ⟨fd, def_ok F sc t_mark_at (fun cdv A outer s H E g hr tk hp => ?_), F.kp, F.bindsN fun _ _ _ _ _ _ us hl => match us, hl with | [_, _, _, _], _ => rfl⟩
  have hc : (CtxB P w K mg base N_mark_at "mark_at" (defScope (top 60)) (He.ga K "mark_at") cdv A outer s H E).calm = true := rfl
  exact (dss_one (ds_ret (de_op op_add ok_add (de_op op_add ok_add de_int (de_op op_mulB ok_mul (de_callB call_len ok_len rfl z.f_len b_len (da_cons (de_globT (ds := c_WORDS) rfl
    z.g_WORDS z.k_WORDS Zu.r_WORDS) da_nil)) (de_op op_add ok_add (de_viewB (cr_sum hc) ok_sum rfl z.f_sum b_sum (DE.view (DF.de (df_lc hc sc.nd (di_tup (de_sliceT (de_var (pv 0))
    do_none (do_some (de_var (pv 1))))) (own := [("row", 4)]) (blkOk_by (by kernel_rfl)) (by decide) (fun s' H' C cl fp => (dg_name (pg_name sc.nd (i := 4) rfl (loc_b rfl)))) (fun s'
    H' C cl fp => dts_nil) (fun s' H' C cl fp => (de_callB call_len ok_len rfl z.f_len b_len (da_cons (de_var (pv 4)) da_nil))))))) (de_var (pv 2))))) (de_var (pv 3)))))
/-! mark_of: 0 house, 1 timetable, 2 cab, 3 i, 4 word, 5 number -/
abbrev N_mark_of : List Str := ["house", "timetable", "cab", "i", "word", "number"]
def t_mark_of : DSt := (seqD (exprD (callD w_check_timetable (acD (vD 0) (acD (vD 1) anD)))) (seqD (asgD (callD w_cab_number (acD (vD 0) (acD (vD 2) anD))) (gN 5)) (seqD (ifS (orD
  (tD (opD dIsN (vD 5) (cD .non))) (notD (tD (callD w_is_number (acD (vD 3) (acD (opD dSub (callBD cLen (acD (opD dIx (vD 1) (vD 5)) anD)) (cD (.int 1))) anD)))))) neverS nextD)
  (seqD (ifS (orD (notD (tD (isiD .str (vD 4)))) (tD (opD (dIn true) (vD 4) (cD (.tup c_WORDS))))) neverS nextD) (retD (callD w_mark_at (acD (vD 1) (acD (vD 5) (acD (vD 3) (acD
  (ixTD n_WORDS (vD 4)) anD))))))))))
def w_mark_of : Wp := wpOf N_mark_of 5 t_mark_of
theorem e_mark_of (d0 d1 d2 d3 d4 : D) {Q : Cell → Prop} {E : Str → List D → Prop} : w_mark_of [d0, d1, d2, d3, d4] Q E = t_mark_of ⟨fun _ => Q (.val .non), fun c _ => Q c, fun _ => False, fun _ => False, fun x xs _ => E x xs⟩ [.val d0, .val d1, .val d2, .val d3, .val d4, .emp] := propext ⟨fun h => h.2, fun h => ⟨rfl, h⟩⟩
theorem sc_mark_of : FnScope N_mark_of ["house", "timetable", "cab", "i", "word"] (defScope (top 61)) := ⟨rfl, rfl, rfl, by decide +kernel, rfl, by decide +kernel, by decide +kernel⟩
theorem ok_mark_of (z : Zu K mg base) : DefOk P w K mg base 7 "mark_of" ["house", "timetable", "cab", "i", "word"] (spP K w_mark_of) := by
  obtain ⟨fd, F'⟩ := z.d.def_ 26 (d := dfn "mark_of" 61) rfl
  have F : FnP K "mark_of" (top 61) fd := F'
  have sc := sc_mark_of
  refine ⟨fd, def_ok F sc t_mark_of (fun cdv A outer s H E g hr tk hp => ?_), F.kp, F.bindsN fun _ _ _ _ _ _ us hl => match us, hl with | [_, _, _, _, _], _ => rfl⟩
  have hc : (CtxB P w K mg base N_mark_of "mark_of" (defScope (top 61)) (He.ga K "mark_of") cdv A outer s H E).calm = true := rfl
  exact (dss_cons (ds_expr (de_callZ (ok_check_timetable z) hr rfl z.g_check_timetable tk (da_cons (de_var (pv 0)) (da_cons (de_var (pv 1)) da_nil)))) (dss_cons (ds_set (de_callZ
    (ok_cab_number z) hr rfl z.g_cab_number tk (da_cons (de_var (pv 0)) (da_cons (de_var (pv 2)) da_nil))) sc.nd rfl (loc_b rfl)) (dss_cons (ds_if (DW.dt (dw_or (dt_cmp op_isN ok_isN
    (de_var (pv 5)) de_non (nomark _)) (dw_or1 (dt_not (dt_val (de_callZ (ok_is_number z) hr rfl z.g_is_number tk (da_cons (de_var (pv 3)) (da_cons (de_op op_sub ok_sub (de_callB
    call_len ok_len rfl z.f_len b_len (da_cons (de_ix (de_var (pv 1)) (de_var (pv 5)) (fun _ _ => rfl)) da_nil)) de_int) da_nil)))))))) (dss_one ds_never) dss_nil) (dss_cons (ds_if
    (DW.dt (dw_or (dt_not (dt_val (de_isi (T := .str) rfl z.f_isinstance b_isinstance (de_var (pv 4)) (pe_bltn rfl z.f_str b_str rfl)))) (dw_or1 (dt_cmp op_notIn_seq ok_in (de_var (pv
    4)) (de_globT (ds := c_WORDS) rfl z.g_WORDS z.k_WORDS Zu.r_WORDS) (by rfl))))) (dss_one ds_never) dss_nil) (dss_one (ds_ret (de_callZ (ok_mark_at z) hr rfl z.g_mark_at tk (da_cons
    (de_var (pv 1)) (da_cons (de_var (pv 5)) (da_cons (de_var (pv 3)) (da_cons (de_ixT (ns := n_WORDS) (pe_glob (v := .ref (He.ga K "WORDS")) rfl z.g_WORDS rfl) (de_var (pv 4))
    z.k_WORDS z.d_WORDS) da_nil)))))))))))
/-! ride_lengths: 0 house, 1 one, 2 other, 3 far -/
abbrev N_ride_lengths : List Str := ["house", "one", "other", "far"]
def t_ride_lengths : DSt := (seqD (asgD (callBD cAbs (acD (opD dSub (vD 1) (vD 2)) anD)) (gN 3)) (retD (tupD (acD (opD dAdd (opD dIx (fldD "House" "ride" (vD 0)) (cD (.int 0))) (opD
  dMul (vD 3) (opD dIx (fldD "House" "ride" (vD 0)) (cD (.int 2))))) (acD (opD dAdd (opD dIx (fldD "House" "ride" (vD 0)) (cD (.int 1))) (opD dMul (vD 3) (opD dIx (fldD "House"
  "ride" (vD 0)) (cD (.int 3))))) anD)))))
def w_ride_lengths : Wp := wpOf N_ride_lengths 3 t_ride_lengths
theorem e_ride_lengths (d0 d1 d2 : D) {Q : Cell → Prop} {E : Str → List D → Prop} : w_ride_lengths [d0, d1, d2] Q E = t_ride_lengths ⟨fun _ => Q (.val .non), fun c _ => Q c, fun _ => False, fun _ => False, fun x xs _ => E x xs⟩ [.val d0, .val d1, .val d2, .emp] := propext ⟨fun h => h.2, fun h => ⟨rfl, h⟩⟩
theorem sc_ride_lengths : FnScope N_ride_lengths ["house", "one", "other"] (defScope (top 62)) := ⟨rfl, rfl, rfl, by decide +kernel, rfl, by decide +kernel, by decide +kernel⟩
theorem ok_ride_lengths (z : Zu K mg base) : DefOk P w K mg base 1 "ride_lengths" ["house", "one", "other"] (spP K w_ride_lengths) := by
  obtain ⟨fd, F'⟩ := z.d.def_ 27 (d := dfn "ride_lengths" 62) rfl
  have F : FnP K "ride_lengths" (top 62) fd := F'
  have sc := sc_ride_lengths
  refine ⟨fd, def_ok F sc t_ride_lengths (fun cdv A outer s H E g hr tk hp => ?_), F.kp, F.bindsN fun _ _ _ _ _ _ us hl => match us, hl with | [_, _, _], _ => rfl⟩
  have hc : (CtxB P w K mg base N_ride_lengths "ride_lengths" (defScope (top 62)) (He.ga K "ride_lengths") cdv A outer s H E).calm = true := rfl
  exact (dss_cons (ds_set (de_callB call_abs ok_abs rfl z.f_abs b_abs (da_cons (de_op op_sub ok_sub (de_var (pv 1)) (de_var (pv 2))) da_nil)) sc.nd rfl (loc_b rfl)) (dss_one (ds_ret
    (de_tup (da_cons (de_op op_add ok_add (de_ix (de_fld (de_var (pv 0)) z.cls_House z.na_House_ride (by rfl)) de_int (fun _ _ => rfl)) (de_op op_mulB ok_mul (de_var (pv 3)) (de_ix
    (de_fld (de_var (pv 0)) z.cls_House z.na_House_ride (by rfl)) de_int (fun _ _ => rfl)))) (da_cons (de_op op_add ok_add (de_ix (de_fld (de_var (pv 0)) z.cls_House z.na_House_ride
    (by rfl)) de_int (fun _ _ => rfl)) (de_op op_mulB ok_mul (de_var (pv 3)) (de_ix (de_fld (de_var (pv 0)) z.cls_House z.na_House_ride (by rfl)) de_int (fun _ _ => rfl))))
    da_nil))))))
/-! stops_of: 0 house, 1 timetable, 2 found, 3 number, 4 cab, 5 row, 6 stop, 7 floor -/
abbrev N_stops_of : List Str := ["house", "timetable", "found", "number", "cab", "row", "stop", "floor"]
def s_stops_of_0 : DSt := (appD 2 (tupD (acD (vD 3) (acD (vD 6) (acD (ifD (tD (opD dGt (vD 6) (cD (.int 0)))) (opD dIx (vD 5) (opD dSub (vD 6) (cD (.int 1)))) (opD dIx (vD 4) (cD
  (.int 2)))) (acD (vD 7) anD))))))
def s_stops_of_1 : DSt := (forD (ietD (acD (vD 5) anD)) (gT 2 (gn1 (gN 6) (gn1 (gN 7) gn0))) s_stops_of_0)
def t_stops_of : DSt := (seqD (ownD (lsF anD) 2) (seqD (forD (iezD (acD (fldD "House" "cabs" (vD 0)) (acD (vD 1) anD))) (gT 2 (gn1 (gN 3) (gn1 (gT 2 (gn1 (gN 4) (gn1 (gN 5) gn0)))
  gn0))) s_stops_of_1) (frzD 2 (retD (vD 2)))))
def w_stops_of : Wp := wpOf N_stops_of 2 t_stops_of
theorem e_stops_of (d0 d1 : D) {Q : Cell → Prop} {E : Str → List D → Prop} : w_stops_of [d0, d1] Q E = t_stops_of ⟨fun _ => Q (.val .non), fun c _ => Q c, fun _ => False, fun _ => False, fun x xs _ => E x xs⟩ [.val d0, .val d1, .emp, .emp, .emp, .emp, .emp, .emp] := propext ⟨fun h => h.2, fun h => ⟨rfl, h⟩⟩
theorem sc_stops_of : FnScope N_stops_of ["house", "timetable"] (defScope (top 63)) := ⟨rfl, rfl, rfl, by decide +kernel, rfl, by decide +kernel, by decide +kernel⟩
theorem ok_stops_of (z : Zu K mg base) : DefOk P w K mg base 1 "stops_of" ["house", "timetable"] (spP K w_stops_of) := by
  obtain ⟨fd, F'⟩ := z.d.def_ 28 (d := dfn "stops_of" 63) rfl
  have F : FnP K "stops_of" (top 63) fd := F'
  have sc := sc_stops_of
  refine ⟨fd, def_ok F sc t_stops_of (fun cdv A outer s H E g hr tk hp => ?_), F.kp, F.bindsN fun _ _ _ _ _ _ us hl => match us, hl with | [_, _], _ => rfl⟩
  have hc : (CtxB P w K mg base N_stops_of "stops_of" (defScope (top 63)) (He.ga K "stops_of") cdv A outer s H E).calm = true := rfl
  exact (dss_cons (ds_own (df_lst da_nil) sc.nd rfl (loc_b rfl)) (dss_cons (ds_for hp hc (di_enumZ rfl z.f_enumerate rfl z.f_zip (da_cons (de_fld (de_var (pv 0)) z.cls_House
    z.na_House_cabs (by rfl)) (da_cons (de_var (pv 1)) da_nil))) (dg_tup hc (dgs_cons (dg_name (pg_name sc.nd (i := 3) rfl (loc_b rfl))) (dgs_cons (dg_tup hc (dgs_cons (dg_name
    (pg_name sc.nd (i := 4) rfl (loc_b rfl))) (dgs_cons (dg_name (pg_name sc.nd (i := 5) rfl (loc_b rfl))) dgs_nil))) dgs_nil))) (dss_one (ds_for hp hc (di_enumT rfl z.f_enumerate
    (da_cons (de_var (pv 5)) da_nil)) (dg_tup hc (dgs_cons (dg_name (pg_name sc.nd (i := 6) rfl (loc_b rfl))) (dgs_cons (dg_name (pg_name sc.nd (i := 7) rfl (loc_b rfl))) dgs_nil)))
    (dss_one (ds_app (pv 2) (de_tup (da_cons (de_var (pv 3)) (da_cons (de_var (pv 6)) (da_cons (de_if (dt_cmp op_gt ok_gt (de_var (pv 6)) de_int (nomark _)) (de_ix (de_var (pv 5))
    (de_op op_sub ok_sub (de_var (pv 6)) de_int) (fun _ _ => rfl)) (de_ix (de_var (pv 4)) de_int (fun _ _ => rfl))) (da_cons (de_var (pv 7)) da_nil)))))))))) (dss_freeze 2 (dss_one
    (ds_ret (de_var (pv 2)))))))
/-! check_all_moments: 0 timetable, 1 thing, 2 many, 3 row, 4 part -/
abbrev N_check_all_moments : List Str := ["timetable", "thing", "many", "row", "part"]
def t_check_all_moments : DSt := (seqD (asgD (opD dAdd (cD (.int 1)) (opD dMul (callBD cLen (acD (cD (.tup c_WORDS)) anD)) (viewD vSum (lstV (frD (lcF (itD (vD 0)) (gN 3) yesD
  (callBD cLen (acD (vD 3) anD)) [3])))))) (gN 2)) (seqD (ifS (orD (notD (tD (isiD .tuple (vD 1)))) (orD (tD (opD dNe (callBD cLen (acD (vD 1) anD)) (vD 2))) (notD (tD (viewD vAll
  (lstV (frD (lcF (itD (vD 1)) (gN 4) yesD (callD w_is_number (acD (vD 4) (acD (cD .non) anD))) [4])))))))) neverS nextD) (ifS (tD (opD dNe (opD dIx (vD 1) (cD (.int 0))) (cD (.int
  0)))) neverS nextD)))
def w_check_all_moments : Wp := wpOf N_check_all_moments 2 t_check_all_moments
theorem e_check_all_moments (d0 d1 : D) {Q : Cell → Prop} {E : Str → List D → Prop} : w_check_all_moments [d0, d1] Q E = t_check_all_moments ⟨fun _ => Q (.val .non), fun c _ => Q c, fun _ => False, fun _ => False, fun x xs _ => E x xs⟩ [.val d0, .val d1, .emp, .emp, .emp] := propext ⟨fun h => h.2, fun h => ⟨rfl, h⟩⟩
theorem sc_check_all_moments : FnScope N_check_all_moments ["timetable", "thing"] (defScope (top 74)) := ⟨rfl, rfl, rfl, by decide +kernel, rfl, by decide +kernel, by decide +kernel⟩
theorem ok_check_all_moments (z : Zu K mg base) : DefOk P w K mg base 3 "check_all_moments" ["timetable", "thing"] (spP K w_check_all_moments) := by
  obtain ⟨fd, F'⟩ := z.d.def_ 32 (d := dfn "check_all_moments" 74) rfl
  have F : FnP K "check_all_moments" (top 74) fd := F'
  have sc := sc_check_all_moments
  refine ⟨fd, def_ok F sc t_check_all_moments (fun cdv A outer s H E g hr tk hp => ?_), F.kp, F.bindsN fun _ _ _ _ _ _ us hl => match us, hl with | [_, _], _ => rfl⟩
  have hc : (CtxB P w K mg base N_check_all_moments "check_all_moments" (defScope (top 74)) (He.ga K "check_all_moments") cdv A outer s H E).calm = true := rfl
  exact (dss_cons (ds_set (de_op op_add ok_add de_int (de_op op_mulB ok_mul (de_callB call_len ok_len rfl z.f_len b_len (da_cons (de_globT (ds := c_WORDS) rfl z.g_WORDS z.k_WORDS
    Zu.r_WORDS) da_nil)) (de_viewB (cr_sum hc) ok_sum rfl z.f_sum b_sum (DE.view (DF.de (df_lc hc sc.nd (di_tup (de_var (pv 0))) (own := [("row", 3)]) (blkOk_by (by kernel_rfl)) (by
    decide) (fun s' H' C cl fp => (dg_name (pg_name sc.nd (i := 3) rfl (loc_b rfl)))) (fun s' H' C cl fp => dts_nil) (fun s' H' C cl fp => (de_callB call_len ok_len rfl z.f_len b_len
    (da_cons (de_var (pv 3)) da_nil))))))))) sc.nd rfl (loc_b rfl)) (dss_cons (ds_if (DW.dt (dw_or (dt_not (dt_val (de_isi (T := .tuple) rfl z.f_isinstance b_isinstance (de_var (pv
    1)) (pe_bltn rfl z.f_tuple b_tuple rfl)))) (dw_or (dt_cmp op_ne ok_ne (de_callB call_len ok_len rfl z.f_len b_len (da_cons (de_var (pv 1)) da_nil)) (de_var (pv 2)) (nomark _))
    (dw_or1 (dt_not (dt_val (de_viewB (cr_all hc) ok_all rfl z.f_all b_all (DE.view (DF.de (df_lc hc sc.nd (di_tup (de_var (pv 1))) (own := [("part", 4)]) (blkOk_by (by kernel_rfl))
    (by decide) (fun s' H' C cl fp => (dg_name (pg_name sc.nd (i := 4) rfl (loc_b rfl)))) (fun s' H' C cl fp => dts_nil) (fun s' H' C cl fp => (de_callZ (ok_is_number z) hr rfl
    z.g_is_number takes0 (da_cons (de_var (pv 4)) (da_cons de_non da_nil)))))))))))))) (dss_one ds_never) dss_nil) (dss_one (ds_if (dt_cmp op_ne ok_ne (de_ix (de_var (pv 1)) de_int
    (fun _ _ => rfl)) de_int (nomark _)) (dss_one ds_never) dss_nil))))
/-! stop_fault: 0 house, 1 timetable, 2 moments, 3 place, 4 number, 5 stop, 6 one, 7 other, 8 go, 9 come, 10 doors, 11 shut, 12 least, 13 greatest, 14 word -/
abbrev N_stop_fault : List Str := ["house", "timetable", "moments", "place", "number", "stop", "one", "other", "go", "come", "doors", "shut", "least", "greatest", "word"]
def t_stop_fault : DSt := (seqD (asgD (vD 3) (gT 4 (gn1 (gN 4) (gn1 (gN 5) (gn1 (gN 6) (gn1 (gN 7) gn0)))))) (seqD (asgD (frD (lcF (itD (tupD (acD (cD (.int 0)) (acD (cD (.int 1))
  (acD (cD (.int 2)) (acD (cD (.int 3)) anD)))))) (gN 14) yesD (opD dIx (vD 2) (callD w_mark_at (acD (vD 1) (acD (vD 4) (acD (vD 5) (acD (vD 14) anD)))))) [14])) (gL 4 (gn1 (gN 8)
  (gn1 (gN 9) (gn1 (gN 10) (gn1 (gN 11) gn0)))))) (seqD (asgD (callD w_ride_lengths (acD (vD 0) (acD (vD 6) (acD (vD 7) anD)))) (gT 2 (gn1 (gN 12) (gn1 (gN 13) gn0)))) (seqD (ifS
  (notD (tD (chD dLe dLe (vD 12) (opD dSub (vD 9) (vD 8)) (vD 13)))) (retD (cD (.str "ride"))) nextD) (seqD (ifS (andD (tD (opD dGt (vD 5) (cD (.int 0)))) (tD (opD dLt (vD 8) (opD
  dIx (vD 2) (callD w_mark_at (acD (vD 1) (acD (vD 4) (acD (opD dSub (vD 5) (cD (.int 1))) (acD (cD (.int 3)) anD))))))))) (retD (cD (.str "ride"))) nextD) (seqD (ifS (orD (tD (opD
  dLt (vD 10) (vD 9))) (notD (tD (chD dLe dLe (opD dIx (fldD "House" "doors" (vD 0)) (cD (.int 0))) (opD dSub (vD 11) (vD 10)) (opD dIx (fldD "House" "doors" (vD 0)) (cD (.int
  1))))))) (retD (cD (.str "doors"))) nextD) (retD (cD .non))))))))
def w_stop_fault : Wp := wpOf N_stop_fault 4 t_stop_fault
theorem e_stop_fault (d0 d1 d2 d3 : D) {Q : Cell → Prop} {E : Str → List D → Prop} : w_stop_fault [d0, d1, d2, d3] Q E = t_stop_fault ⟨fun _ => Q (.val .non), fun c _ => Q c, fun _ => False, fun _ => False, fun x xs _ => E x xs⟩ [.val d0, .val d1, .val d2, .val d3, .emp, .emp, .emp, .emp, .emp, .emp, .emp, .emp, .emp, .emp, .emp] := propext ⟨fun h => h.2, fun h => ⟨rfl, h⟩⟩
theorem sc_stop_fault : FnScope N_stop_fault ["house", "timetable", "moments", "place"] (defScope (top 75)) := ⟨rfl, rfl, rfl, by decide +kernel, rfl, by decide +kernel, by decide +kernel⟩
theorem ok_stop_fault (z : Zu K mg base) : DefOk P w K mg base 2 "stop_fault" ["house", "timetable", "moments", "place"] (spP K w_stop_fault) := by
  obtain ⟨fd, F'⟩ := z.d.def_ 33 (d := dfn "stop_fault" 75) rfl
  have F : FnP K "stop_fault" (top 75) fd := F'
  have sc := sc_stop_fault
  refine ⟨fd, def_ok F sc t_stop_fault (fun cdv A outer s H E g hr tk hp => ?_), F.kp, F.bindsN fun _ _ _ _ _ _ us hl => match us, hl with | [_, _, _, _], _ => rfl⟩
  have hc : (CtxB P w K mg base N_stop_fault "stop_fault" (defScope (top 75)) (He.ga K "stop_fault") cdv A outer s H E).calm = true := rfl
  exact (dss_cons (ds_asg (de_var (pv 3)) (dg_tup hc (dgs_cons (dg_name (pg_name sc.nd (i := 4) rfl (loc_b rfl))) (dgs_cons (dg_name (pg_name sc.nd (i := 5) rfl (loc_b rfl)))
    (dgs_cons (dg_name (pg_name sc.nd (i := 6) rfl (loc_b rfl))) (dgs_cons (dg_name (pg_name sc.nd (i := 7) rfl (loc_b rfl))) dgs_nil)))))) (dss_cons (ds_asg (DF.de (df_lc hc sc.nd
    (di_tup (de_tup (da_cons (de_globI (i := 0) rfl z.i_GO) (da_cons (de_globI (i := 1) rfl z.i_COME) (da_cons (de_globI (i := 2) rfl z.i_DOORS_making) (da_cons (de_globI (i := 3) rfl
    z.i_SHUT) da_nil)))))) (own := [("word", 14)]) (blkOk_by (by kernel_rfl)) (by decide) (fun s' H' C cl fp => (dg_name (pg_name sc.nd (i := 14) rfl (loc_b rfl)))) (fun s' H' C cl fp
    => dts_nil) (fun s' H' C cl fp => (de_ix (de_var (pv 2)) (de_callZ (ok_mark_at z) hr rfl z.g_mark_at takes0 (da_cons (de_var (pv 1)) (da_cons (de_var (pv 4)) (da_cons (de_var (pv
    5)) (da_cons (de_var (pv 14)) da_nil))))) (fun _ _ => rfl))))) (dg_lst hc (dgs_cons (dg_name (pg_name sc.nd (i := 8) rfl (loc_b rfl))) (dgs_cons (dg_name (pg_name sc.nd (i := 9)
    rfl (loc_b rfl))) (dgs_cons (dg_name (pg_name sc.nd (i := 10) rfl (loc_b rfl))) (dgs_cons (dg_name (pg_name sc.nd (i := 11) rfl (loc_b rfl))) dgs_nil)))))) (dss_cons (ds_asg
    (de_callZ (ok_ride_lengths z) hr rfl z.g_ride_lengths tk (da_cons (de_var (pv 0)) (da_cons (de_var (pv 6)) (da_cons (de_var (pv 7)) da_nil)))) (dg_tup hc (dgs_cons (dg_name
    (pg_name sc.nd (i := 12) rfl (loc_b rfl))) (dgs_cons (dg_name (pg_name sc.nd (i := 13) rfl (loc_b rfl))) dgs_nil)))) (dss_cons (ds_if (dt_not (dt_chain op_le ok_le op_le ok_le
    (de_var (pv 12)) (de_op op_sub ok_sub (de_var (pv 9)) (de_var (pv 8))) (de_var (pv 13)))) (dss_one (ds_ret (de_globS (i := "ride") rfl z.s_RIDE_rides))) dss_nil) (dss_cons (ds_if
    (DW.dt (dw_and (dt_cmp op_gt ok_gt (de_var (pv 5)) de_int (nomark _)) (dw_and1 (dt_cmp op_lt ok_lt (de_var (pv 8)) (de_ix (de_var (pv 2)) (de_callZ (ok_mark_at z) hr rfl
    z.g_mark_at tk (da_cons (de_var (pv 1)) (da_cons (de_var (pv 4)) (da_cons (de_op op_sub ok_sub (de_var (pv 5)) de_int) (da_cons (de_globI (i := 3) rfl z.i_SHUT) da_nil))))) (fun _
    _ => rfl)) (nomark _))))) (dss_one (ds_ret (de_globS (i := "ride") rfl z.s_RIDE_rides))) dss_nil) (dss_cons (ds_if (DW.dt (dw_or (dt_cmp op_lt ok_lt (de_var (pv 10)) (de_var (pv
    9)) (nomark _)) (dw_or1 (dt_not (dt_chain op_le ok_le op_le ok_le (de_ix (de_fld (de_var (pv 0)) z.cls_House z.na_House_doors (by rfl)) de_int (fun _ _ => rfl)) (de_op op_sub
    ok_sub (de_var (pv 11)) (de_var (pv 10))) (de_ix (de_fld (de_var (pv 0)) z.cls_House z.na_House_doors (by rfl)) de_int (fun _ _ => rfl))))))) (dss_one (ds_ret (de_globS (i :=
    "doors") rfl z.s_DOORS_WORD))) dss_nil) (dss_one (ds_ret de_non))))))))
/-! cab_fault: 0 house, 1 timetable, 2 moments, 3 place, 4 word -/
abbrev N_cab_fault : List Str := ["house", "timetable", "moments", "place", "word"]
def s_cab_fault_0 : DSt := (seqD (asgD (callD w_stop_fault (acD (vD 0) (acD (vD 1) (acD (vD 2) (acD (vD 3) anD))))) (gN 4)) (ifS (tD (opD dNotN (vD 4) (cD .non))) (retD (tupD (acD
  (vD 4) (acD (opD dIx (opD dIx (fldD "House" "cabs" (vD 0)) (opD dIx (vD 3) (cD (.int 0)))) (cD (.int 0))) (acD (opD dIx (vD 3) (cD (.int 1))) anD))))) nextD))
def t_cab_fault : DSt := (seqD (forD (ilD (callD w_stops_of (acD (vD 0) (acD (vD 1) anD)))) (gN 3) s_cab_fault_0) (retD (cD .non)))
def w_cab_fault : Wp := wpOf N_cab_fault 3 t_cab_fault
theorem e_cab_fault (d0 d1 d2 : D) {Q : Cell → Prop} {E : Str → List D → Prop} : w_cab_fault [d0, d1, d2] Q E = t_cab_fault ⟨fun _ => Q (.val .non), fun c _ => Q c, fun _ => False, fun _ => False, fun x xs _ => E x xs⟩ [.val d0, .val d1, .val d2, .emp, .emp] := propext ⟨fun h => h.2, fun h => ⟨rfl, h⟩⟩
theorem sc_cab_fault : FnScope N_cab_fault ["house", "timetable", "moments"] (defScope (top 76)) := ⟨rfl, rfl, rfl, by decide +kernel, rfl, by decide +kernel, by decide +kernel⟩
theorem ok_cab_fault (z : Zu K mg base) : DefOk P w K mg base 3 "cab_fault" ["house", "timetable", "moments"] (spP K w_cab_fault) := by
  obtain ⟨fd, F'⟩ := z.d.def_ 34 (d := dfn "cab_fault" 76) rfl
  have F : FnP K "cab_fault" (top 76) fd := F'
  have sc := sc_cab_fault
  refine ⟨fd, def_ok F sc t_cab_fault (fun cdv A outer s H E g hr tk hp => ?_), F.kp, F.bindsN fun _ _ _ _ _ _ us hl => match us, hl with | [_, _, _], _ => rfl⟩
  have hc : (CtxB P w K mg base N_cab_fault "cab_fault" (defScope (top 76)) (He.ga K "cab_fault") cdv A outer s H E).calm = true := rfl
  exact (dss_cons (ds_for hp hc (di_list (de_callZ (ok_stops_of z) hr rfl z.g_stops_of tk (da_cons (de_var (pv 0)) (da_cons (de_var (pv 1)) da_nil)))) (dg_name (pg_name sc.nd (i := 3)
    rfl (loc_b rfl))) (dss_cons (ds_set (de_callZ (ok_stop_fault z) hr rfl z.g_stop_fault tk (da_cons (de_var (pv 0)) (da_cons (de_var (pv 1)) (da_cons (de_var (pv 2)) (da_cons
    (de_var (pv 3)) da_nil))))) sc.nd rfl (loc_b rfl)) (dss_one (ds_if (dt_cmp op_notN ok_notN (de_var (pv 4)) de_non (nomark _)) (dss_one (ds_ret (de_tup (da_cons (de_var (pv 4))
    (da_cons (de_ix (de_ix (de_fld (de_var (pv 0)) z.cls_House z.na_House_cabs (by rfl)) (de_ix (de_var (pv 3)) de_int (fun _ _ => rfl)) (fun _ _ => rfl)) de_int (fun _ _ => rfl))
    (da_cons (de_ix (de_var (pv 3)) de_int (fun _ _ => rfl)) da_nil)))))) dss_nil)))) (dss_one (ds_ret de_non)))
/-! cab_spans: 0 house, 1 timetable, 2 number, 3 row, 4 here, 5 found, 6 stop, 7 floor, 8 go, 9 passed, 10 behind -/
abbrev N_cab_spans : List Str := ["house", "timetable", "number", "row", "here", "found", "stop", "floor", "go", "passed", "behind"]
def s_cab_spans_0 : DSt := (appD 5 (tupD (acD (vD 8) (acD (vD 9) (acD (opD dAdd (vD 8) (cD (.int 1))) anD)))))
def s_cab_spans_1 : DSt := (seqD (asgD (callD w_mark_at (acD (vD 1) (acD (vD 2) (acD (vD 6) (acD (cD (.int 0)) anD))))) (gN 8)) (seqD (forD (ir2D (acD (opD dAdd (callBD cMin2 (acD
  (vD 4) (acD (vD 7) anD))) (cD (.int 1))) (acD (callBD cMax2 (acD (vD 4) (acD (vD 7) anD))) anD))) (gN 9) s_cab_spans_0) (seqD (asgD (ifD (tD (opD dLt (opD dAdd (vD 6) (cD (.int
  1))) (callBD cLen (acD (vD 3) anD)))) (callD w_mark_at (acD (vD 1) (acD (vD 2) (acD (opD dAdd (vD 6) (cD (.int 1))) (acD (cD (.int 1)) anD))))) (cD .non)) (gN 10)) (seqD (appD 5
  (tupD (acD (vD 8) (acD (vD 7) (acD (vD 10) anD))))) (asgD (vD 7) (gN 4))))))
def t_cab_spans : DSt := (seqD (asgD (opD dIx (vD 1) (vD 2)) (gN 3)) (seqD (asgD (opD dIx (opD dIx (fldD "House" "cabs" (vD 0)) (vD 2)) (cD (.int 2))) (gN 4)) (seqD (ownD (lsF (acD
  (tupD (acD (cD (.int 0)) (acD (vD 4) (acD (ifD (tD (opD dGt (callBD cLen (acD (vD 3) anD)) (cD (.int 0)))) (callD w_mark_at (acD (vD 1) (acD (vD 2) (acD (cD (.int 0)) (acD (cD
  (.int 1)) anD))))) (cD .non)) anD)))) anD)) 5) (seqD (forD (ietD (acD (vD 3) anD)) (gT 2 (gn1 (gN 6) (gn1 (gN 7) gn0))) s_cab_spans_1) (retD (sortKD (ownV 5)))))))
def w_cab_spans : Wp := wpOf N_cab_spans 3 t_cab_spans
theorem e_cab_spans (d0 d1 d2 : D) {Q : Cell → Prop} {E : Str → List D → Prop} : w_cab_spans [d0, d1, d2] Q E = t_cab_spans ⟨fun _ => Q (.val .non), fun c _ => Q c, fun _ => False, fun _ => False, fun x xs _ => E x xs⟩ [.val d0, .val d1, .val d2, .emp, .emp, .emp, .emp, .emp, .emp, .emp, .emp] := propext ⟨fun h => h.2, fun h => ⟨rfl, h⟩⟩
theorem sc_cab_spans : FnScope N_cab_spans ["house", "timetable", "number"] (defScope (top 65)) := ⟨rfl, rfl, rfl, by decide +kernel, rfl, by decide +kernel, by decide +kernel⟩
theorem ok_cab_spans (z : Zu K mg base) : DefOk P w K mg base 4 "cab_spans" ["house", "timetable", "number"] (spP K w_cab_spans) := by
  obtain ⟨fd, F'⟩ := z.d.def_ 30 (d := dfn "cab_spans" 65) rfl
  have F : FnP K "cab_spans" (top 65) fd := F'
  have sc := sc_cab_spans
  refine ⟨fd, def_okC F sc t_cab_spans (fun cdv hcd A outer s H E g hr tk hp => ?_), F.kp, F.bindsN fun _ _ _ _ _ _ us hl => match us, hl with | [_, _, _], _ => rfl⟩
  have lo : LamOk (CtxB P w K mg base N_cab_spans "cab_spans" (defScope (top 65)) (He.ga K "cab_spans") cdv A outer s H E) ("cab_spans", none) := lamOk_of (p := ("cab_spans", none)) (by simp [lamDefs]) hcd z.lu z.tb
  have hc : (CtxB P w K mg base N_cab_spans "cab_spans" (defScope (top 65)) (He.ga K "cab_spans") cdv A outer s H E).calm = true := rfl
  exact (dss_cons (ds_set (de_ix (de_var (pv 1)) (de_var (pv 2)) (fun _ _ => rfl)) sc.nd rfl (loc_b rfl)) (dss_cons (ds_set (de_ix (de_ix (de_fld (de_var (pv 0)) z.cls_House
    z.na_House_cabs (by rfl)) (de_var (pv 2)) (fun _ _ => rfl)) de_int (fun _ _ => rfl)) sc.nd rfl (loc_b rfl)) (dss_cons (ds_own (df_lst (da_cons (de_tup (da_cons de_int (da_cons
    (de_var (pv 4)) (da_cons (de_if (dt_cmp op_gt ok_gt (de_callB call_len ok_len rfl z.f_len b_len (da_cons (de_var (pv 3)) da_nil)) de_int (nomark _)) (de_callZ (ok_mark_at z) hr
    rfl z.g_mark_at tk (da_cons (de_var (pv 1)) (da_cons (de_var (pv 2)) (da_cons de_int (da_cons (de_globI (i := 1) rfl z.i_COME) da_nil))))) de_non) da_nil)))) da_nil)) sc.nd rfl
    (loc_b rfl)) (dss_cons (ds_for hp hc (di_enumT rfl z.f_enumerate (da_cons (de_var (pv 3)) da_nil)) (dg_tup hc (dgs_cons (dg_name (pg_name sc.nd (i := 6) rfl (loc_b rfl)))
    (dgs_cons (dg_name (pg_name sc.nd (i := 7) rfl (loc_b rfl))) dgs_nil))) (dss_cons (ds_set (de_callZ (ok_mark_at z) hr rfl z.g_mark_at tk (da_cons (de_var (pv 1)) (da_cons (de_var
    (pv 2)) (da_cons (de_var (pv 6)) (da_cons (de_globI (i := 0) rfl z.i_GO) da_nil))))) sc.nd rfl (loc_b rfl)) (dss_cons (ds_for hp hc (di_range2 rfl z.f_range (da_cons (de_op op_add
    ok_add (de_callB (call_min2 hc) ok_min2 rfl z.f_min b_min (da_cons (de_var (pv 4)) (da_cons (de_var (pv 7)) da_nil))) de_int) (da_cons (de_callB (call_max2 hc) ok_max2 rfl z.f_max
    b_max (da_cons (de_var (pv 4)) (da_cons (de_var (pv 7)) da_nil))) da_nil))) (dg_name (pg_name sc.nd (i := 9) rfl (loc_b rfl))) (dss_one (ds_app (pv 5) (de_tup (da_cons (de_var (pv
    8)) (da_cons (de_var (pv 9)) (da_cons (de_op op_add ok_add (de_var (pv 8)) (de_globI (i := 1) rfl z.i_COME)) da_nil))))))) (dss_cons (ds_set (de_if (dt_cmp op_lt ok_lt (de_op
    op_add ok_add (de_var (pv 6)) de_int) (de_callB call_len ok_len rfl z.f_len b_len (da_cons (de_var (pv 3)) da_nil)) (nomark _)) (de_callZ (ok_mark_at z) hr rfl z.g_mark_at tk
    (da_cons (de_var (pv 1)) (da_cons (de_var (pv 2)) (da_cons (de_op op_add ok_add (de_var (pv 6)) de_int) (da_cons (de_globI (i := 1) rfl z.i_COME) da_nil))))) de_non) sc.nd rfl
    (loc_b rfl)) (dss_cons (ds_app (pv 5) (de_tup (da_cons (de_var (pv 8)) (da_cons (de_var (pv 7)) (da_cons (de_var (pv 10)) da_nil))))) (dss_one (ds_set (de_var (pv 7)) sc.nd rfl
    (loc_b rfl)))))))) (dss_one (ds_ret (de_sortLam hc rfl z.f_sorted (dv_own (pv 5)) lo hr rfl (fun _ _ _ _ _ _ => rfl) (by kernel_rfl))))))))
/-! shared_spans: 0 house, 1 timetable, 2 found, 3 number, 4 cab, 5 begin, 6 floor, 7 end, 8 cabs_at, 9 shaft, 10 span -/
abbrev N_shared_spans : List Str := ["house", "timetable", "found", "number", "cab", "begin", "floor", "end", "cabs_at", "shaft", "span"]
def s_shared_spans_0 : DSt := (appD 2 (tupD (acD (vD 3) (acD (opD dIx (vD 4) (cD (.int 1))) (acD (vD 6) (acD (vD 5) (acD (vD 7) anD)))))))
def s_shared_spans_1 : DSt := (forD (ilD (callD w_cab_spans (acD (vD 0) (acD (vD 1) (acD (vD 3) anD))))) (gT 3 (gn1 (gN 5) (gn1 (gN 6) (gn1 (gN 7) gn0)))) s_shared_spans_0)
def t_shared_spans : DSt := (seqD (ownD (lsF anD) 2) (seqD (forD (ietD (acD (fldD "House" "cabs" (vD 0)) anD)) (gT 2 (gn1 (gN 3) (gn1 (gN 4) gn0))) s_shared_spans_1) (frzD 2 (blkA 8
  (ilD (vD 2)) (gT 5 (gn1 (gN 3) (gn1 (gN 9) (gn1 (gN 6) (gn1 (gN 5) (gn1 (gN 7) gn0)))))) (acD (vD 9) (acD (vD 6) anD)) (vD 3) (cD (.bl true)) (retD (frD (lcF (ilD (vD 2)) (gN 10)
  (tD (opD dGt (callBD cLenD (acD (getSD (vD 8) (vD 10) (soO (cD (.int 1))) (soO (cD (.int 3)))) anD)) (cD (.int 1)))) (vD 10) [10])))))))
def w_shared_spans : Wp := wpOf N_shared_spans 2 t_shared_spans
theorem e_shared_spans (d0 d1 : D) {Q : Cell → Prop} {E : Str → List D → Prop} : w_shared_spans [d0, d1] Q E = t_shared_spans ⟨fun _ => Q (.val .non), fun c _ => Q c, fun _ => False, fun _ => False, fun x xs _ => E x xs⟩ [.val d0, .val d1, .emp, .emp, .emp, .emp, .emp, .emp, .emp, .emp, .emp] := propext ⟨fun h => h.2, fun h => ⟨rfl, h⟩⟩
theorem sc_shared_spans : FnScope N_shared_spans ["house", "timetable"] (defScope (top 66)) := ⟨rfl, rfl, rfl, by decide +kernel, rfl, by decide +kernel, by decide +kernel⟩
theorem ok_shared_spans (z : Zu K mg base) : DefOk P w K mg base 5 "shared_spans" ["house", "timetable"] (spP K w_shared_spans) := by
  obtain ⟨fd, F'⟩ := z.d.def_ 31 (d := dfn "shared_spans" 66) rfl
  have F : FnP K "shared_spans" (top 66) fd := F'
  have sc := sc_shared_spans
  refine ⟨fd, def_ok F sc t_shared_spans (fun cdv A outer s H E g hr tk hp => ?_), F.kp, F.bindsN fun _ _ _ _ _ _ us hl => match us, hl with | [_, _], _ => rfl⟩
  have hc : (CtxB P w K mg base N_shared_spans "shared_spans" (defScope (top 66)) (He.ga K "shared_spans") cdv A outer s H E).calm = true := rfl
  exact (dss_cons (ds_own (df_lst da_nil) sc.nd rfl (loc_b rfl)) (dss_cons (ds_for hp hc (di_enumT rfl z.f_enumerate (da_cons (de_fld (de_var (pv 0)) z.cls_House z.na_House_cabs (by
    rfl)) da_nil)) (dg_tup hc (dgs_cons (dg_name (pg_name sc.nd (i := 3) rfl (loc_b rfl))) (dgs_cons (dg_name (pg_name sc.nd (i := 4) rfl (loc_b rfl))) dgs_nil))) (dss_one (ds_for hp
    hc (di_list (de_callZ (ok_cab_spans z) hr rfl z.g_cab_spans tk (da_cons (de_var (pv 0)) (da_cons (de_var (pv 1)) (da_cons (de_var (pv 3)) da_nil))))) (dg_tup hc (dgs_cons (dg_name
    (pg_name sc.nd (i := 5) rfl (loc_b rfl))) (dgs_cons (dg_name (pg_name sc.nd (i := 6) rfl (loc_b rfl))) (dgs_cons (dg_name (pg_name sc.nd (i := 7) rfl (loc_b rfl))) dgs_nil))))
    (dss_one (ds_app (pv 2) (de_tup (da_cons (de_var (pv 3)) (da_cons (de_ix (de_var (pv 4)) de_int (fun _ _ => rfl)) (da_cons (de_var (pv 6)) (da_cons (de_var (pv 5)) (da_cons
    (de_var (pv 7)) da_nil))))))))))) (dss_freeze 2 (dss_blkA sc.nd (i := 8) rfl (loc_b rfl) hp hc (hu_1 hr) (di_list (de_var (pv 2))) (dg_tup hc (dgs_cons (dg_name (pg_name sc.nd (i
    := 3) rfl (loc_b rfl))) (dgs_cons (dg_name (pg_name sc.nd (i := 9) rfl (loc_b rfl))) (dgs_cons (dg_name (pg_name sc.nd (i := 6) rfl (loc_b rfl))) (dgs_cons (dg_name (pg_name sc.nd
    (i := 5) rfl (loc_b rfl))) (dgs_cons (dg_name (pg_name sc.nd (i := 7) rfl (loc_b rfl))) dgs_nil)))))) (pv 8) (da_cons (de_var (pv 9)) (da_cons (de_var (pv 6)) da_nil)) (de_var (pv
    3)) de_bl (dss_one (ds_ret (DF.de (df_lc hc sc.nd (di_list (de_var (pv 2))) (own := [("span", 10)]) (blkOk_by (by kernel_rfl)) (by decide) (fun s' H' C cl fp => (dg_name (pg_name
    sc.nd (i := 10) rfl (loc_b rfl)))) (fun s' H' C cl fp => (dts_one (dt_cmp op_gt ok_gt (de_callB call_lenD ok_lenD rfl z.f_len b_len (da_cons (de_getS (hu_1 hr) (de_var (pv 8))
    (de_var (pv 10)) (do_some de_int) (do_some de_int)) da_nil)) de_int (nomark _)))) (fun s' H' C cl fp => (de_var (pv 10))))))) ⟨by rfl, by rfl, by rfl, by rfl⟩))))
/-! meet_fault: 0 house, 1 timetable, 2 moments, 3 spans_at, 4 number, 5 shaft, 6 floor, 7 begin, 8 end, 9 spans, 10 at, 11 one, 12 other -/
abbrev N_meet_fault : List Str := ["house", "timetable", "moments", "spans_at", "number", "shaft", "floor", "begin", "end", "spans", "at", "one", "other"]
def s_meet_fault_0 : DSt := (ifS (tD (viewD vAny (lstV (frD (lcF (ilD (frD (slF (vD 9) (soO (opD dAdd (vD 10) (cD (.int 1)))) noO))) (gN 12) yesD (callD w_meet (acD (vD 11) (acD (vD
  12) (acD (vD 2) anD)))) [12]))))) (retD (tupD (acD (cD (.str "meet")) (acD (vD 5) (acD (vD 6) anD))))) nextD)
def s_meet_fault_1 : DSt := (seqD (asgD (getTD (vD 3) (acD (vD 5) (acD (vD 6) anD))) (gN 9)) (forD (ieD (acD (vD 9) anD)) (gT 2 (gn1 (gN 10) (gn1 (gN 11) gn0))) s_meet_fault_0))
def t_meet_fault : DSt := (blkB 3 (ilD (callD w_shared_spans (acD (vD 0) (acD (vD 1) anD)))) (gT 5 (gn1 (gN 4) (gn1 (gN 5) (gn1 (gN 6) (gn1 (gN 7) (gn1 (gN 8) gn0)))))) (acD (vD 5)
  (acD (vD 6) anD)) (tupD (acD (cD (.int 0)) (acD (vD 7) (acD (vD 8) (acD (fldD "House" "turn" (vD 0)) anD))))) (seqD (forD (ilD (callBD cSortT (acD (vD 3) anD))) (gT 2 (gn1 (gN 5)
  (gn1 (gN 6) gn0))) s_meet_fault_1) (retD (cD .non))))
def w_meet_fault : Wp := wpOf N_meet_fault 3 t_meet_fault
theorem e_meet_fault (d0 d1 d2 : D) {Q : Cell → Prop} {E : Str → List D → Prop} : w_meet_fault [d0, d1, d2] Q E = t_meet_fault ⟨fun _ => Q (.val .non), fun c _ => Q c, fun _ => False, fun _ => False, fun x xs _ => E x xs⟩ [.val d0, .val d1, .val d2, .emp, .emp, .emp, .emp, .emp, .emp, .emp, .emp, .emp, .emp] := propext ⟨fun h => h.2, fun h => ⟨rfl, h⟩⟩
theorem sc_meet_fault : FnScope N_meet_fault ["house", "timetable", "moments"] (defScope (top 78)) := ⟨rfl, rfl, rfl, by decide +kernel, rfl, by decide +kernel, by decide +kernel⟩
theorem ok_meet_fault (z : Zu K mg base) : DefOk P w K mg base 6 "meet_fault" ["house", "timetable", "moments"] (spP K w_meet_fault) := by
  obtain ⟨fd, F'⟩ := z.d.def_ 36 (d := dfn "meet_fault" 78) rfl
  have F : FnP K "meet_fault" (top 78) fd := F'
  have sc := sc_meet_fault
  refine ⟨fd, def_ok F sc t_meet_fault (fun cdv A outer s H E g hr tk hp => ?_), F.kp, F.bindsN fun _ _ _ _ _ _ us hl => match us, hl with | [_, _, _], _ => rfl⟩
  have hc : (CtxB P w K mg base N_meet_fault "meet_fault" (defScope (top 78)) (He.ga K "meet_fault") cdv A outer s H E).calm = true := rfl
  exact (dss_blkB sc.nd (i := 3) rfl (loc_b rfl) hp hc (hu_1 hr) (di_list (de_callZ (ok_shared_spans z) hr rfl z.g_shared_spans tk (da_cons (de_var (pv 0)) (da_cons (de_var (pv 1))
    da_nil)))) (dg_tup hc (dgs_cons (dg_name (pg_name sc.nd (i := 4) rfl (loc_b rfl))) (dgs_cons (dg_name (pg_name sc.nd (i := 5) rfl (loc_b rfl))) (dgs_cons (dg_name (pg_name sc.nd
    (i := 6) rfl (loc_b rfl))) (dgs_cons (dg_name (pg_name sc.nd (i := 7) rfl (loc_b rfl))) (dgs_cons (dg_name (pg_name sc.nd (i := 8) rfl (loc_b rfl))) dgs_nil)))))) (pv 3) (da_cons
    (de_var (pv 5)) (da_cons (de_var (pv 6)) da_nil)) (de_tup (da_cons de_int (da_cons (de_var (pv 7)) (da_cons (de_var (pv 8)) (da_cons (de_fld (de_var (pv 0)) z.cls_House
    z.na_House_turn (by rfl)) da_nil))))) (dss_cons (ds_for hp hc (di_list (de_callB (cr_sortedDT hc) ok_sortT rfl z.f_sorted b_sorted (da_cons (de_var (pv 3)) da_nil))) (dg_tup hc
    (dgs_cons (dg_name (pg_name sc.nd (i := 5) rfl (loc_b rfl))) (dgs_cons (dg_name (pg_name sc.nd (i := 6) rfl (loc_b rfl))) dgs_nil))) (dss_cons (ds_set (de_getT (hu_1 hr) (de_var
    (pv 3)) (da_cons (de_var (pv 5)) (da_cons (de_var (pv 6)) da_nil))) sc.nd rfl (loc_b rfl)) (dss_one (ds_for hp hc (di_enumL rfl z.f_enumerate (da_cons (de_var (pv 9)) da_nil))
    (dg_tup hc (dgs_cons (dg_name (pg_name sc.nd (i := 10) rfl (loc_b rfl))) (dgs_cons (dg_name (pg_name sc.nd (i := 11) rfl (loc_b rfl))) dgs_nil))) (dss_one (ds_if (dt_val (de_viewB
    (cr_any hc) ok_any rfl z.f_any b_any (DE.view (DF.de (df_lc hc sc.nd (di_list (DF.de (df_sliceL (de_var (pv 9)) (do_some (de_op op_add ok_add (de_var (pv 10)) de_int)) do_none)))
    (own := [("other", 12)]) (blkOk_by (by kernel_rfl)) (by decide) (fun s' H' C cl fp => (dg_name (pg_name sc.nd (i := 12) rfl (loc_b rfl)))) (fun s' H' C cl fp => dts_nil) (fun s'
    H' C cl fp => (de_callZ (ok_meet z) hr rfl z.g_meet takes0 (da_cons (de_var (pv 11)) (da_cons (de_var (pv 12)) (da_cons (de_var (pv 2)) da_nil)))))))))) (dss_one (ds_ret (de_tup
    (da_cons (de_globS (i := "meet") rfl z.s_MEET) (da_cons (de_var (pv 5)) (da_cons (de_var (pv 6)) da_nil)))))) dss_nil)))))) (dss_one (ds_ret de_non))) ⟨by rfl, by rfl, by rfl, by
    rfl⟩)
/-! fault: 0 house, 1 timetable, 2 riders, 3 moments, 4 found, 5 rider -/
abbrev N_fault : List Str := ["house", "timetable", "riders", "moments", "found", "rider"]
def t_fault : DSt := (seqD (exprD (callD w_check_riders (acD (vD 0) (acD (vD 1) (acD (vD 2) anD))))) (seqD (exprD (callD w_check_all_moments (acD (vD 1) (acD (vD 3) anD)))) (seqD
  (asgD (callD w_cab_fault (acD (vD 0) (acD (vD 1) (acD (vD 3) anD)))) (gN 4)) (seqD (forD (itD (vD 2)) (gN 5) neverS) (retD (ifD (tD (opD dIsN (vD 4) (cD .non))) (callD
  w_meet_fault (acD (vD 0) (acD (vD 1) (acD (vD 3) anD)))) (vD 4)))))))
def w_fault : Wp := wpOf N_fault 4 t_fault
theorem e_fault (d0 d1 d2 d3 : D) {Q : Cell → Prop} {E : Str → List D → Prop} : w_fault [d0, d1, d2, d3] Q E = t_fault ⟨fun _ => Q (.val .non), fun c _ => Q c, fun _ => False, fun _ => False, fun x xs _ => E x xs⟩ [.val d0, .val d1, .val d2, .val d3, .emp, .emp] := propext ⟨fun h => h.2, fun h => ⟨rfl, h⟩⟩
theorem sc_fault : FnScope N_fault ["house", "timetable", "riders", "moments"] (defScope (top 79)) := ⟨rfl, rfl, rfl, by decide +kernel, rfl, by decide +kernel, by decide +kernel⟩
theorem ok_fault (z : Zu K mg base) : DefOk P w K mg base 9 "fault" ["house", "timetable", "riders", "moments"] (spP K w_fault) := by
  obtain ⟨fd, F'⟩ := z.d.def_ 37 (d := dfn "fault" 79) rfl
  have F : FnP K "fault" (top 79) fd := F'
  have sc := sc_fault
  refine ⟨fd, def_ok F sc t_fault (fun cdv A outer s H E g hr tk hp => ?_), F.kp, F.bindsN fun _ _ _ _ _ _ us hl => match us, hl with | [_, _, _, _], _ => rfl⟩
  have hc : (CtxB P w K mg base N_fault "fault" (defScope (top 79)) (He.ga K "fault") cdv A outer s H E).calm = true := rfl
  exact (dss_cons (ds_expr (de_callZ (ok_check_riders z) hr rfl z.g_check_riders tk (da_cons (de_var (pv 0)) (da_cons (de_var (pv 1)) (da_cons (de_var (pv 2)) da_nil))))) (dss_cons
    (ds_expr (de_callZ (ok_check_all_moments z) hr rfl z.g_check_all_moments tk (da_cons (de_var (pv 1)) (da_cons (de_var (pv 3)) da_nil)))) (dss_cons (ds_set (de_callZ (ok_cab_fault
    z) hr rfl z.g_cab_fault tk (da_cons (de_var (pv 0)) (da_cons (de_var (pv 1)) (da_cons (de_var (pv 3)) da_nil)))) sc.nd rfl (loc_b rfl)) (dss_cons (ds_for hp hc (di_tup (de_var (pv
    2))) (dg_name (pg_name sc.nd (i := 5) rfl (loc_b rfl))) dss_never) (dss_one (ds_ret (de_if (dt_cmp op_isN ok_isN (de_var (pv 4)) de_non (nomark _)) (de_callZ (ok_meet_fault z) hr
    rfl z.g_meet_fault tk (da_cons (de_var (pv 0)) (da_cons (de_var (pv 1)) (da_cons (de_var (pv 3)) da_nil)))) (de_var (pv 4)))))))))
/-! floor_of: 0 house, 1 timetable, 2 moments, 3 cab, 4 tick, 5 number, 6 here, 7 stop, 8 floor -/
abbrev N_floor_of : List Str := ["house", "timetable", "moments", "cab", "tick", "number", "here", "stop", "floor"]
def s_floor_of_0 : DSt := (seqD (ifS (tD (opD dLe (vD 4) (opD dIx (vD 2) (callD w_mark_at (acD (vD 1) (acD (vD 5) (acD (vD 7) (acD (cD (.int 0)) anD)))))))) (retD (vD 6)) nextD)
  (seqD (ifS (tD (opD dLt (vD 4) (opD dIx (vD 2) (callD w_mark_at (acD (vD 1) (acD (vD 5) (acD (vD 7) (acD (cD (.int 1)) anD)))))))) (retD (tupD (acD (vD 6) (acD (vD 8) anD))))
  nextD) (asgD (vD 8) (gN 6))))
def t_floor_of : DSt := (seqD (exprD (callD w_check_timetable (acD (vD 0) (acD (vD 1) anD)))) (seqD (exprD (callD w_check_all_moments (acD (vD 1) (acD (vD 2) anD)))) (seqD (ifS (tD
  (opD dNotN (callD w_cab_fault (acD (vD 0) (acD (vD 1) (acD (vD 2) anD)))) (cD .non))) (raiseD "BadMoments") nextD) (seqD (asgD (callD w_cab_number (acD (vD 0) (acD (vD 3) anD)))
  (gN 5)) (seqD (ifS (tD (opD dIsN (vD 5) (cD .non))) neverS nextD) (seqD (ifS (notD (tD (callD w_is_number (acD (vD 4) (acD (cD .non) anD))))) neverS nextD) (seqD (asgD (opD dIx
  (opD dIx (fldD "House" "cabs" (vD 0)) (vD 5)) (cD (.int 2))) (gN 6)) (seqD (forD (ietD (acD (opD dIx (vD 1) (vD 5)) anD)) (gT 2 (gn1 (gN 7) (gn1 (gN 8) gn0))) s_floor_of_0) (retD
  (vD 6))))))))))
def w_floor_of : Wp := wpOf N_floor_of 5 t_floor_of
theorem e_floor_of (d0 d1 d2 d3 d4 : D) {Q : Cell → Prop} {E : Str → List D → Prop} : w_floor_of [d0, d1, d2, d3, d4] Q E = t_floor_of ⟨fun _ => Q (.val .non), fun c _ => Q c, fun _ => False, fun _ => False, fun x xs _ => E x xs⟩ [.val d0, .val d1, .val d2, .val d3, .val d4, .emp, .emp, .emp, .emp] := propext ⟨fun h => h.2, fun h => ⟨rfl, h⟩⟩
theorem sc_floor_of : FnScope N_floor_of ["house", "timetable", "moments", "cab", "tick"] (defScope (top 80)) := ⟨rfl, rfl, rfl, by decide +kernel, rfl, by decide +kernel, by decide +kernel⟩
theorem ok_floor_of (z : Zu K mg base) : DefOk P w K mg base 7 "floor_of" ["house", "timetable", "moments", "cab", "tick"] (spP K w_floor_of) := by
  obtain ⟨fd, F'⟩ := z.d.def_ 38 (d := dfn "floor_of" 80) rfl
  have F : FnP K "floor_of" (top 80) fd := F'
  have sc := sc_floor_of
  refine ⟨fd, def_ok F sc t_floor_of (fun cdv A outer s H E g hr tk hp => ?_), F.kp, F.bindsN fun _ _ _ _ _ _ us hl => match us, hl with | [_, _, _, _, _], _ => rfl⟩
  have hc : (CtxB P w K mg base N_floor_of "floor_of" (defScope (top 80)) (He.ga K "floor_of") cdv A outer s H E).calm = true := rfl
  exact (dss_cons (ds_expr (de_callZ (ok_check_timetable z) hr rfl z.g_check_timetable tk (da_cons (de_var (pv 0)) (da_cons (de_var (pv 1)) da_nil)))) (dss_cons (ds_expr (de_callZ
    (ok_check_all_moments z) hr rfl z.g_check_all_moments tk (da_cons (de_var (pv 1)) (da_cons (de_var (pv 2)) da_nil)))) (dss_cons (ds_if (dt_cmp op_notN ok_notN (de_callZ
    (ok_cab_fault z) hr rfl z.g_cab_fault tk (da_cons (de_var (pv 0)) (da_cons (de_var (pv 1)) (da_cons (de_var (pv 2)) da_nil)))) de_non (nomark _)) (dss_one (ds_raise hc tk
    z.e_BadMoments z.g_BadMoments rfl)) dss_nil) (dss_cons (ds_set (de_callZ (ok_cab_number z) hr rfl z.g_cab_number tk (da_cons (de_var (pv 0)) (da_cons (de_var (pv 3)) da_nil)))
    sc.nd rfl (loc_b rfl)) (dss_cons (ds_if (dt_cmp op_isN ok_isN (de_var (pv 5)) de_non (nomark _)) (dss_one ds_never) dss_nil) (dss_cons (ds_if (dt_not (dt_val (de_callZ
    (ok_is_number z) hr rfl z.g_is_number tk (da_cons (de_var (pv 4)) (da_cons de_non da_nil))))) (dss_one ds_never) dss_nil) (dss_cons (ds_set (de_ix (de_ix (de_fld (de_var (pv 0))
    z.cls_House z.na_House_cabs (by rfl)) (de_var (pv 5)) (fun _ _ => rfl)) de_int (fun _ _ => rfl)) sc.nd rfl (loc_b rfl)) (dss_cons (ds_for hp hc (di_enumT rfl z.f_enumerate
    (da_cons (de_ix (de_var (pv 1)) (de_var (pv 5)) (fun _ _ => rfl)) da_nil)) (dg_tup hc (dgs_cons (dg_name (pg_name sc.nd (i := 7) rfl (loc_b rfl))) (dgs_cons (dg_name (pg_name
    sc.nd (i := 8) rfl (loc_b rfl))) dgs_nil))) (dss_cons (ds_if (dt_cmp op_le ok_le (de_var (pv 4)) (de_ix (de_var (pv 2)) (de_callZ (ok_mark_at z) hr rfl z.g_mark_at tk (da_cons
    (de_var (pv 1)) (da_cons (de_var (pv 5)) (da_cons (de_var (pv 7)) (da_cons (de_globI (i := 0) rfl z.i_GO) da_nil))))) (fun _ _ => rfl)) (nomark _)) (dss_one (ds_ret (de_var (pv
    6)))) dss_nil) (dss_cons (ds_if (dt_cmp op_lt ok_lt (de_var (pv 4)) (de_ix (de_var (pv 2)) (de_callZ (ok_mark_at z) hr rfl z.g_mark_at tk (da_cons (de_var (pv 1)) (da_cons (de_var
    (pv 5)) (da_cons (de_var (pv 7)) (da_cons (de_globI (i := 1) rfl z.i_COME) da_nil))))) (fun _ _ => rfl)) (nomark _)) (dss_one (ds_ret (de_tup (da_cons (de_var (pv 6)) (da_cons
    (de_var (pv 8)) da_nil))))) dss_nil) (dss_one (ds_set (de_var (pv 8)) sc.nd rfl (loc_b rfl)))))) (dss_one (ds_ret (de_var (pv 6))))))))))))
/-! _law_hand: 0 script, 1 cells, 2 cell -/
abbrev N_law_hand : List Str := ["script", "cells", "cell"]
def t_law_hand : DSt := (seqD (asgD (frD (lcF (ilD (frD (slS (vD 0) noO (soO (cD (.int 63)))))) (gN 2) yesD (callBD cAbs (acD (callBD cInt (acD (vD 2) anD)) anD)) [2])) (gN 1))
  (retF (lsF (acD (vD 1) (acD (cD (.int 0)) (acD (cD (.int 0)) (acD (opD dAdd (cD (.int 89)) (opD dMul (cD (.int 11)) (callBD cLen (acD (vD 1) anD)))) (acD (cD (.int 0)) anD))))))))
def w_law_hand : Wp := wpOf N_law_hand 1 t_law_hand
theorem e_law_hand (d0 : D) {Q : Cell → Prop} {E : Str → List D → Prop} : w_law_hand [d0] Q E = t_law_hand ⟨fun _ => Q (.val .non), fun c _ => Q c, fun _ => False, fun _ => False, fun x xs _ => E x xs⟩ [.val d0, .emp, .emp] := propext ⟨fun h => h.2, fun h => ⟨rfl, h⟩⟩
theorem sc_law_hand : FnScope N_law_hand ["script"] (defScope (top 82)) := ⟨rfl, rfl, rfl, by decide +kernel, rfl, by decide +kernel, by decide +kernel⟩
theorem ok_law_hand (z : Zu K mg base) : DefOk P w K mg base 1 "_law_hand" ["script"] (spP K w_law_hand) := by
  obtain ⟨fd, F'⟩ := z.d.def_ 39 (d := dfn "_law_hand" 82) rfl
  have F : FnP K "_law_hand" (top 82) fd := F'
  have sc := sc_law_hand
  refine ⟨fd, def_ok F sc t_law_hand (fun cdv A outer s H E g hr tk hp => ?_), F.kp, F.bindsN fun _ _ _ _ _ _ us hl => match us, hl with | [_], _ => rfl⟩
  have hc : (CtxB P w K mg base N_law_hand "_law_hand" (defScope (top 82)) (He.ga K "_law_hand") cdv A outer s H E).calm = true := rfl
  exact (dss_cons (ds_lcV (ps_lcZ (i := 1) (y := "cells") rfl rfl (by rfl) hc sc.nd (di_list (DF.de (df_sliceS (de_var (pv 0)) do_none (do_some de_int)))) (own := [("cell", 2)])
    (blkOk_by (by kernel_rfl)) (by decide) (fun s' H' C cl fp => (dg_name (pg_name sc.nd (i := 2) rfl (loc_b rfl)))) (fun s' H' C cl fp => dts_nil) (fun s' H' C cl fp => (de_callB
    call_abs ok_abs rfl z.f_abs b_abs (da_cons (de_callTy call_int1 ok_int rfl z.f_int b_int (da_cons (de_var (pv 2)) da_nil)) da_nil))))) (dss_one (ds_retF (df_lst (da_cons (de_var
    (pv 1)) (da_cons de_int (da_cons de_int (da_cons (de_op op_add ok_add de_int (de_op op_mulB ok_mul de_int (de_callB call_len ok_len rfl z.f_len b_len (da_cons (de_var (pv 1))
    da_nil)))) (da_cons de_int da_nil)))))))))
/-! _law_draw: 0 hand, 1 many, 2 cell, 3 digit, 4 number -/
abbrev N_law_draw : List Str := ["hand", "many", "cell", "digit", "number"]
def t_law_draw : DSt := (seqD (ifS (andD (tD (opD dEq (ixO 0 (cD (.int 2))) (cD (.int 0)))) (tD (opD dLt (ixO 0 (cD (.int 1))) (callBD cLen (acD (ixO 0 (cD (.int 0))) anD))))) (seqD
  (asgD (opD dIx (ixO 0 (cD (.int 0))) (ixO 0 (cD (.int 1)))) (gN 2)) (seqD (setD 0 (cD (.int 1)) (opD dAdd (ixO 0 (cD (.int 1))) (cD (.int 1)))) (seqD (setD 0 (cD (.int 3)) (opD
  dMod (callBD cInt (acD (opD dAdd (opD dAdd (opD dMul (ixO 0 (cD (.int 3))) (cD (.int 69621))) (opD dMul (vD 2) (cD (.int 40692)))) (cD (.int 31))) anD)) (cD (.int 2147483629))))
  (ifS (tD (opD dGe (vD 2) (opD dPow (cD (.int 10)) (cD (.int 18))))) (setD 0 (cD (.int 2)) (vD 2)) nextD)))) nextD) (seqD (ifS (tD (opD dGt (ixO 0 (cD (.int 2))) (cD (.int 0))))
  (seqD (asgD (opD dMod (callBD cInt (acD (ixO 0 (cD (.int 2))) anD)) (vD 1)) (gN 3)) (seqD (setD 0 (cD (.int 2)) (opD dDiv (ixO 0 (cD (.int 2))) (vD 1))) (retD (vD 3)))) nextD)
  (seqD (setD 0 (cD (.int 4)) (opD dAdd (ixO 0 (cD (.int 4))) (cD (.int 1)))) (seqD (asgD (opD dMod (callBD cInt (acD (opD dMul (callBD cInt (acD (opD dAdd (ixO 0 (cD (.int 3)))
  (opD dMul (cD (.int 7919)) (ixO 0 (cD (.int 4))))) anD)) (cD (.int 48271))) anD)) (cD (.int 2147483647))) (gN 4)) (seqD (asgD (opD dMod (callBD cInt (acD (opD dMul (vD 4) (opD
  dAdd (opD dDiv (vD 4) (cD (.int 1009))) (cD (.int 69621)))) anD)) (cD (.int 2147483647))) (gN 4)) (seqD (asgD (opD dMod (callBD cInt (acD (opD dMul (vD 4) (opD dAdd (opD dDiv (vD
  4) (cD (.int 2003))) (cD (.int 40014)))) anD)) (cD (.int 2147483563))) (gN 4)) (retD (opD dMod (callBD cInt (acD (opD dDiv (vD 4) (cD (.int 16))) anD)) (vD 1)))))))))
def w_law_draw : WpH := wpHOf N_law_draw 1 t_law_draw
theorem e_law_draw {hs : List D} (d0 : D) {Q : List D → Cell → Prop} : w_law_draw hs [d0] Q = t_law_draw ⟨fun δ => onOwn (fun hs' => Q hs' (.val .non)) δ[0]?, fun c δ => onOwn (fun hs' => Q hs' c) δ[0]?, fun _ => False, fun _ => False, fun _ _ _ => False⟩ [.own (.lst hs), .val d0, .emp, .emp, .emp] := propext ⟨fun h => h.2, fun h => ⟨rfl, h⟩⟩
theorem sc_law_draw : FnScope N_law_draw ["hand", "many"] (defScope (top 83)) := ⟨rfl, rfl, rfl, by decide +kernel, rfl, by decide +kernel, by decide +kernel⟩
theorem ok_law_draw (z : Zu K mg base) : DefOk P w K mg base 1 "_law_draw" ["hand", "many"] (spH K w_law_draw) := by
  obtain ⟨fd, F'⟩ := z.d.def_ 40 (d := dfn "_law_draw" 83) rfl
  have F : FnP K "_law_draw" (top 83) fd := F'
  have sc := sc_law_draw
  refine ⟨fd, defH_ok F sc t_law_draw (fun cdv A outer s H E g hr tk hp => ?_), F.kp, F.bindsN fun _ _ _ _ _ _ us hl => match us, hl with | [_, _], _ => rfl⟩
  have hc : (CtxB P w K mg base N_law_draw "_law_draw" (defScope (top 83)) (He.ga K "_law_draw") cdv A outer s H E).calm = true := rfl
  exact (dss_cons (ds_if (DW.dt (dw_and (dt_cmp op_eq ok_eq (de_ixV (pv 0) de_int (fun _ _ => rfl)) de_int (nomark _)) (dw_and1 (dt_cmp op_lt ok_lt (de_ixV (pv 0) de_int (fun _ _ =>
    rfl)) (de_callB call_len ok_len rfl z.f_len b_len (da_cons (de_ixV (pv 0) de_int (fun _ _ => rfl)) da_nil)) (nomark _))))) (dss_cons (ds_set (de_ix (de_ixV (pv 0) de_int (fun _ _
    => rfl)) (de_ixV (pv 0) de_int (fun _ _ => rfl)) (fun _ _ => rfl)) sc.nd rfl (loc_b rfl)) (dss_cons (ds_seti (pv 0) de_int (de_op op_add ok_add (de_ixV (pv 0) de_int (fun _ _ =>
    rfl)) de_int)) (dss_cons (ds_seti (pv 0) de_int (de_op op_mod ok_mod (de_callTy call_int1 ok_int rfl z.f_int b_int (da_cons (de_op op_add ok_add (de_op op_add ok_add (de_op
    op_mulB ok_mul (de_ixV (pv 0) de_int (fun _ _ => rfl)) de_int) (de_op op_mulB ok_mul (de_var (pv 2)) de_int)) de_int) da_nil)) de_int)) (dss_one (ds_if (dt_cmp op_ge ok_ge (de_var
    (pv 2)) (de_op op_pow ok_pow de_int de_int) (nomark _)) (dss_one (ds_seti (pv 0) de_int (de_var (pv 2)))) dss_nil))))) dss_nil) (dss_cons (ds_if (dt_cmp op_gt ok_gt (de_ixV (pv 0)
    de_int (fun _ _ => rfl)) de_int (nomark _)) (dss_cons (ds_set (de_op op_mod ok_mod (de_callTy call_int1 ok_int rfl z.f_int b_int (da_cons (de_ixV (pv 0) de_int (fun _ _ => rfl))
    da_nil)) (de_var (pv 1))) sc.nd rfl (loc_b rfl)) (dss_cons (ds_seti (pv 0) de_int (de_op op_fdiv ok_div (de_ixV (pv 0) de_int (fun _ _ => rfl)) (de_var (pv 1)))) (dss_one (ds_ret
    (de_var (pv 3)))))) dss_nil) (dss_cons (ds_seti (pv 0) de_int (de_op op_add ok_add (de_ixV (pv 0) de_int (fun _ _ => rfl)) de_int)) (dss_cons (ds_set (de_op op_mod ok_mod
    (de_callTy call_int1 ok_int rfl z.f_int b_int (da_cons (de_op op_mulB ok_mul (de_callTy call_int1 ok_int rfl z.f_int b_int (da_cons (de_op op_add ok_add (de_ixV (pv 0) de_int (fun
    _ _ => rfl)) (de_op op_mulB ok_mul de_int (de_ixV (pv 0) de_int (fun _ _ => rfl)))) da_nil)) de_int) da_nil)) de_int) sc.nd rfl (loc_b rfl)) (dss_cons (ds_set (de_op op_mod ok_mod
    (de_callTy call_int1 ok_int rfl z.f_int b_int (da_cons (de_op op_mulB ok_mul (de_var (pv 4)) (de_op op_add ok_add (de_op op_fdiv ok_div (de_var (pv 4)) de_int) de_int)) da_nil))
    de_int) sc.nd rfl (loc_b rfl)) (dss_cons (ds_set (de_op op_mod ok_mod (de_callTy call_int1 ok_int rfl z.f_int b_int (da_cons (de_op op_mulB ok_mul (de_var (pv 4)) (de_op op_add
    ok_add (de_op op_fdiv ok_div (de_var (pv 4)) de_int) de_int)) da_nil)) de_int) sc.nd rfl (loc_b rfl)) (dss_one (ds_ret (de_op op_mod ok_mod (de_callTy call_int1 ok_int rfl z.f_int
    b_int (da_cons (de_op op_fdiv ok_div (de_var (pv 4)) de_int) da_nil)) (de_var (pv 1)))))))))))
/-! _law_any: 0 hand, 1 some -/
abbrev N_law_any : List Str := ["hand", "some"]
def t_law_any : DSt := (retD (opD dIx (vD 1) (callH w_law_draw 0 (acD (callBD cLen (acD (vD 1) anD)) anD))))
def w_law_any : WpH := wpHOf N_law_any 1 t_law_any
theorem e_law_any {hs : List D} (d0 : D) {Q : List D → Cell → Prop} : w_law_any hs [d0] Q = t_law_any ⟨fun δ => onOwn (fun hs' => Q hs' (.val .non)) δ[0]?, fun c δ => onOwn (fun hs' => Q hs' c) δ[0]?, fun _ => False, fun _ => False, fun _ _ _ => False⟩ [.own (.lst hs), .val d0] := propext ⟨fun h => h.2, fun h => ⟨rfl, h⟩⟩
theorem sc_law_any : FnScope N_law_any ["hand", "some"] (defScope (top 84)) := ⟨rfl, rfl, rfl, by decide +kernel, rfl, by decide +kernel, by decide +kernel⟩
theorem ok_law_any (z : Zu K mg base) : DefOk P w K mg base 2 "_law_any" ["hand", "some"] (spH K w_law_any) := by
  obtain ⟨fd, F'⟩ := z.d.def_ 41 (d := dfn "_law_any" 84) rfl
  have F : FnP K "_law_any" (top 84) fd := F'
  have sc := sc_law_any
  refine ⟨fd, defH_ok F sc t_law_any (fun cdv A outer s H E g hr tk hp => ?_), F.kp, F.bindsN fun _ _ _ _ _ _ us hl => match us, hl with | [_, _], _ => rfl⟩
  have hc : (CtxB P w K mg base N_law_any "_law_any" (defScope (top 84)) (He.ga K "_law_any") cdv A outer s H E).calm = true := rfl
  exact (dss_one (ds_ret (de_ix (de_var (pv 1)) (de_callHZ (ok_law_draw z) hr rfl z.g__law_draw tk (pv 0) (da_cons (de_callB call_len ok_len rfl z.f_len b_len (da_cons (de_var (pv 1))
    da_nil)) da_nil)) (fun _ _ => rfl))))
/-! _law_is: 0 answer, 1 due, 2 one, 3 other -/
abbrev N_law_is : List Str := ["answer", "due", "one", "other"]
def t_law_is (wr : Wp) : DSt := (seqD (ifS (orD (tD (opD dIsN (vD 1) (cD .non))) (tD (opD dIsN (vD 0) (cD .non)))) (retD (andV (opD dIsN (vD 1) (cD .non)) (opD dIsN (vD 0) (cD
  .non)))) nextD) (seqD (ifS (tD (isi2D .tuple .list (vD 1))) (seqD (ifS (orD (tD (opD dNe (isiD .tuple (vD 0)) (isiD .tuple (vD 1)))) (tD (opD dNe (isiD .list (vD 0)) (isiD .list
  (vD 1))))) (retD (cD (.bl false))) nextD) (retD (andV (opD dEq (callBD cLen (acD (vD 0) anD)) (callBD cLen (acD (vD 1) anD))) (viewD vAll (lstV (frD (lcF (izD (acD (vD 0) (acD (vD
  1) anD))) (gT 2 (gn1 (gN 2) (gn1 (gN 3) gn0))) yesD (callD wr (acD (vD 2) (acD (vD 3) anD))) [2, 3]))))))) nextD) (seqD (ifS (orD (tD (opD dNe (isiD .bool (vD 0)) (isiD .bool (vD
  1)))) (tD (opD dNe (isiD .int (vD 0)) (isiD .int (vD 1))))) (retD (cD (.bl false))) nextD) (retD (andV (opD dEq (isiD .str (vD 0)) (isiD .str (vD 1))) (opD dEq (vD 0) (vD 1)))))))
def w_law_is_n : Nat → Wp
  | 0 => fun _ _ _ => False
  | n + 1 => wpOf N_law_is 2 (t_law_is (w_law_is_n n))
def w_law_is : Wp := w_law_is_n 4
theorem sc_law_is : FnScope N_law_is ["answer", "due"] (defScope (top 85)) := ⟨rfl, rfl, rfl, by decide +kernel, rfl, by decide +kernel, by decide +kernel⟩
theorem ok_law_is_n (z : Zu K mg base) : ∀ n : Nat, DefOk P w K mg base (n + 1) "_law_is" ["answer", "due"] (spP K (w_law_is_n n))
  | 0 => by
    obtain ⟨fd, F'⟩ := z.d.def_ 42 (d := dfn "_law_is" 85) rfl
    have F : FnP K "_law_is" (top 85) fd := F'
    exact ⟨fd, fn_never, F.kp, F.bindsN fun _ _ _ _ _ _ us hl => match us, hl with | [_, _], _ => rfl⟩
  | n + 1 => by
    have ih := ok_law_is_n z n
    obtain ⟨fd, F'⟩ := z.d.def_ 42 (d := dfn "_law_is" 85) rfl
    have F : FnP K "_law_is" (top 85) fd := F'
    have sc := sc_law_is
    refine ⟨fd, def_ok F sc (t_law_is (w_law_is_n n)) (fun cdv A outer s H E g hr tk hp => ?_), F.kp, F.bindsN fun _ _ _ _ _ _ us hl => match us, hl with | [_, _], _ => rfl⟩
    have hc : (CtxB P w K mg base N_law_is "_law_is" (defScope (top 85)) (He.ga K "_law_is") cdv A outer s H E).calm = true := rfl
    exact (dss_cons (ds_if (DW.dt (dw_or (dt_cmp op_isN ok_isN (de_var (pv 1)) de_non (nomark _)) (dw_or1 (dt_cmp op_isN ok_isN (de_var (pv 0)) de_non (nomark _))))) (dss_one (ds_ret
      (de_and (de_cmp op_isN ok_isN (de_var (pv 1)) de_non (nomark _)) (de_one (de_cmp op_isN ok_isN (de_var (pv 0)) de_non (nomark _)))))) dss_nil) (dss_cons (ds_if (dt_val (de_isi2 (S
      := .tuple) (T := .list) rfl z.f_isinstance b_isinstance (de_var (pv 1)) (pe_bltn rfl z.f_tuple b_tuple rfl) (pe_bltn rfl z.f_list b_list rfl))) (dss_cons (ds_if (DW.dt (dw_or
      (dt_cmp op_ne ok_ne (de_isi (T := .tuple) rfl z.f_isinstance b_isinstance (de_var (pv 0)) (pe_bltn rfl z.f_tuple b_tuple rfl)) (de_isi (T := .tuple) rfl z.f_isinstance
      b_isinstance (de_var (pv 1)) (pe_bltn rfl z.f_tuple b_tuple rfl)) (nomark _)) (dw_or1 (dt_cmp op_ne ok_ne (de_isi (T := .list) rfl z.f_isinstance b_isinstance (de_var (pv 0))
      (pe_bltn rfl z.f_list b_list rfl)) (de_isi (T := .list) rfl z.f_isinstance b_isinstance (de_var (pv 1)) (pe_bltn rfl z.f_list b_list rfl)) (nomark _))))) (dss_one (ds_ret de_bl))
      dss_nil) (dss_one (ds_ret (de_and (de_cmp op_eq ok_eq (de_callB call_len ok_len rfl z.f_len b_len (da_cons (de_var (pv 0)) da_nil)) (de_callB call_len ok_len rfl z.f_len b_len
      (da_cons (de_var (pv 1)) da_nil)) (nomark _)) (de_one (de_viewB (cr_all hc) ok_all rfl z.f_all b_all (DE.view (DF.de (df_lc hc sc.nd (di_zip (fun _ h => RZ.pi_zipA rfl z.f_zip h)
      (da_cons (de_var (pv 0)) (da_cons (de_var (pv 1)) da_nil))) (own := [("one", 2), ("other", 3)]) (blkOk_by (by kernel_rfl)) (by decide) (fun s' H' C cl fp => (dg_tup hc (dgs_cons
      (dg_name (pg_name sc.nd (i := 2) rfl (loc_b rfl))) (dgs_cons (dg_name (pg_name sc.nd (i := 3) rfl (loc_b rfl))) dgs_nil)))) (fun s' H' C cl fp => dts_nil) (fun s' H' C cl fp =>
      (de_callZ ih hr rfl z.g__law_is takes0 (da_cons (de_var (pv 2)) (da_cons (de_var (pv 3)) da_nil)) (hjk := Nat.le_refl _)))))))))))) dss_nil) (dss_cons (ds_if (DW.dt (dw_or (dt_cmp
      op_ne ok_ne (de_isi (T := .bool) rfl z.f_isinstance b_isinstance (de_var (pv 0)) (pe_bltn rfl z.f_bool b_bool rfl)) (de_isi (T := .bool) rfl z.f_isinstance b_isinstance (de_var
      (pv 1)) (pe_bltn rfl z.f_bool b_bool rfl)) (nomark _)) (dw_or1 (dt_cmp op_ne ok_ne (de_isi (T := .int) rfl z.f_isinstance b_isinstance (de_var (pv 0)) (pe_bltn rfl z.f_int b_int
      rfl)) (de_isi (T := .int) rfl z.f_isinstance b_isinstance (de_var (pv 1)) (pe_bltn rfl z.f_int b_int rfl)) (nomark _))))) (dss_one (ds_ret de_bl)) dss_nil) (dss_one (ds_ret
      (de_and (de_cmp op_eq ok_eq (de_isi (T := .str) rfl z.f_isinstance b_isinstance (de_var (pv 0)) (pe_bltn rfl z.f_str b_str rfl)) (de_isi (T := .str) rfl z.f_isinstance
      b_isinstance (de_var (pv 1)) (pe_bltn rfl z.f_str b_str rfl)) (nomark _)) (de_one (de_cmp op_eq ok_eq (de_var (pv 0)) (de_var (pv 1)) (nomark _)))))))))
theorem ok_law_is (z : Zu K mg base) : DefOk P w K mg base 5 "_law_is" ["answer", "due"] (spP K w_law_is) := ok_law_is_n z 4
/-! _law_house: 0 hand, 1 many, 2 floors, 3 least, 4 floor, 5 ride, 6 shut, 7 doors, 8 cabs, 9 taken, 10 at, 11 shaft, 12 place -/
abbrev N_law_house : List Str := ["hand", "many", "floors", "least", "floor", "ride", "shut", "doors", "cabs", "taken", "at", "shaft", "place"]
def s_law_house_0 : DSt := (seqD (parD [11, 12] (mvD (callH w_law_any 0 (acD (lstD (acD (cD (.int 0)) (acD (cD (.int 0)) (acD (cD (.int 1)) (acD (cD (.int 9)) anD))))) anD)) (mvD
  (callH w_law_draw 0 (acD (vD 2) anD)) mnD))) (ifS (tD (opV (vInD true) (tupD (acD (vD 11) (acD (vD 12) anD))) (ownV 9))) (seqD (appD 9 (tupD (acD (vD 11) (acD (vD 12) anD))))
  (appD 8 (tupD (acD (opD dIx (lstD (acD (cD (.str "ann")) (acD (cD (.str "bob")) (acD (cD (.str "z")) (acD (cD (.str "abcdefgh")) anD))))) (vD 10)) (acD (vD 11) (acD (vD 12)
  anD)))))) nextD))
def t_law_house : DSt := (seqD (parD [2, 3, 4] (mvD (opD dAdd (cD (.int 2)) (callH w_law_draw 0 (acD (cD (.int 5)) anD))) (mvD (callH w_law_draw 0 (acD (cD (.int 3)) anD)) (mvD (opD
  dAdd (cD (.int 1)) (callH w_law_draw 0 (acD (cD (.int 2)) anD))) mnD)))) (seqD (asgD (tupD (acD (vD 3) (acD (opD dAdd (vD 3) (callH w_law_draw 0 (acD (cD (.int 3)) anD))) (acD (vD
  4) (acD (opD dAdd (vD 4) (callH w_law_draw 0 (acD (cD (.int 2)) anD))) anD))))) (gN 5)) (seqD (asgD (opD dAdd (cD (.int 1)) (callH w_law_draw 0 (acD (cD (.int 3)) anD))) (gN 6))
  (seqD (parD [7, 8, 9] (mvD (tupD (acD (vD 6) (acD (opD dAdd (vD 6) (callH w_law_draw 0 (acD (cD (.int 3)) anD))) (acD (callH w_law_any 0 (acD (lstD (acD (cD (.int 0)) (acD (cD
  (.int 0)) (acD (cD (.int 1)) (acD (cD (.int 3)) anD))))) anD)) anD)))) (moD (lsF anD) (moD (lsF anD) mnD)))) (seqD (forD (irD (acD (opD dAdd (cD (.int 1)) (callH w_law_draw 0 (acD
  (vD 1) anD))) anD)) (gN 10) s_law_house_0) (retD (tupD (acD (vD 2) (acD (vD 5) (acD (vD 7) (acD (callH w_law_any 0 (acD (lstD (acD (cD (.int 0)) (acD (cD (.int 0)) (acD (cD (.int
  1)) (acD (cD (.int 2)) (acD (cD (.int 4)) anD)))))) anD)) (acD (viewD vTup (ownV 8)) anD))))))))))))
def w_law_house : WpH := wpHOf N_law_house 1 t_law_house
theorem e_law_house {hs : List D} (d0 : D) {Q : List D → Cell → Prop} : w_law_house hs [d0] Q = t_law_house ⟨fun δ => onOwn (fun hs' => Q hs' (.val .non)) δ[0]?, fun c δ => onOwn (fun hs' => Q hs' c) δ[0]?, fun _ => False, fun _ => False, fun _ _ _ => False⟩ [.own (.lst hs), .val d0, .emp, .emp, .emp, .emp, .emp, .emp, .emp, .emp, .emp, .emp, .emp] := propext ⟨fun h => h.2, fun h => ⟨rfl, h⟩⟩
theorem sc_law_house : FnScope N_law_house ["hand", "many"] (defScope (top 86)) := ⟨rfl, rfl, rfl, by decide +kernel, rfl, by decide +kernel, by decide +kernel⟩
theorem ok_law_house (z : Zu K mg base) : DefOk P w K mg base 3 "_law_house" ["hand", "many"] (spH K w_law_house) := by
  obtain ⟨fd, F'⟩ := z.d.def_ 43 (d := dfn "_law_house" 86) rfl
  have F : FnP K "_law_house" (top 86) fd := F'
  have sc := sc_law_house
  refine ⟨fd, defH_ok F sc t_law_house (fun cdv A outer s H E g hr tk hp => ?_), F.kp, F.bindsN fun _ _ _ _ _ _ us hl => match us, hl with | [_, _], _ => rfl⟩
  have hc : (CtxB P w K mg base N_law_house "_law_house" (defScope (top 86)) (He.ga K "_law_house") cdv A outer s H E).calm = true := rfl
  exact (dss_cons (ds_par3 hc sc.nd (i := 2) (j := 3) (l := 4) rfl rfl rfl (by decide) (by decide) (by decide) rfl rfl rfl (dm_val (de_op op_add ok_add de_int (de_callHZ (ok_law_draw
    z) hr rfl z.g__law_draw tk (pv 0) (da_cons de_int da_nil))) (dm_val (de_callHZ (ok_law_draw z) hr rfl z.g__law_draw tk (pv 0) (da_cons de_int da_nil)) (dm_val (de_op op_add ok_add
    de_int (de_callHZ (ok_law_draw z) hr rfl z.g__law_draw tk (pv 0) (da_cons de_int da_nil))) dm_nil))) (by rfl)) (dss_cons (ds_set (de_tup (da_cons (de_var (pv 3)) (da_cons (de_op
    op_add ok_add (de_var (pv 3)) (de_callHZ (ok_law_draw z) hr rfl z.g__law_draw tk (pv 0) (da_cons de_int da_nil))) (da_cons (de_var (pv 4)) (da_cons (de_op op_add ok_add (de_var
    (pv 4)) (de_callHZ (ok_law_draw z) hr rfl z.g__law_draw tk (pv 0) (da_cons de_int da_nil))) da_nil))))) sc.nd rfl (loc_b rfl)) (dss_cons (ds_set (de_op op_add ok_add de_int
    (de_callHZ (ok_law_draw z) hr rfl z.g__law_draw tk (pv 0) (da_cons de_int da_nil))) sc.nd rfl (loc_b rfl)) (dss_cons (ds_par3 hc sc.nd (i := 7) (j := 8) (l := 9) rfl rfl rfl (by
    decide) (by decide) (by decide) rfl rfl rfl (dm_val (de_tup (da_cons (de_var (pv 6)) (da_cons (de_op op_add ok_add (de_var (pv 6)) (de_callHZ (ok_law_draw z) hr rfl z.g__law_draw
    tk (pv 0) (da_cons de_int da_nil))) (da_cons (de_callHZ (ok_law_any z) hr rfl z.g__law_any tk (pv 0) (da_cons (de_lst (da_cons de_int (da_cons de_int (da_cons de_int (da_cons
    de_int da_nil))))) da_nil)) da_nil)))) (dm_own (df_lst da_nil) (dm_own (df_lst da_nil) dm_nil))) (by rfl)) (dss_cons (ds_for hp hc (di_range1 rfl z.f_range (da_cons (de_op op_add
    ok_add de_int (de_callHZ (ok_law_draw z) hr rfl z.g__law_draw tk (pv 0) (da_cons (de_var (pv 1)) da_nil))) da_nil)) (dg_name (pg_name sc.nd (i := 10) rfl (loc_b rfl))) (dss_cons
    (ds_par hc sc.nd (i := 11) (j := 12) rfl rfl (by decide) rfl rfl (dm_val (de_callHZ (ok_law_any z) hr rfl z.g__law_any tk (pv 0) (da_cons (de_lst (da_cons de_int (da_cons de_int
    (da_cons de_int (da_cons de_int da_nil))))) da_nil)) (dm_val (de_callHZ (ok_law_draw z) hr rfl z.g__law_draw tk (pv 0) (da_cons (de_var (pv 2)) da_nil)) dm_nil)) (by rfl))
    (dss_one (ds_if (dt_cmpV (op_notInD (hu_in hr)) ok_notInDV (de_tup (da_cons (de_var (pv 11)) (da_cons (de_var (pv 12)) da_nil))) (dv_own (pv 9)) (by rfl)) (dss_cons (ds_app (pv 9)
    (de_tup (da_cons (de_var (pv 11)) (da_cons (de_var (pv 12)) da_nil)))) (dss_one (ds_app (pv 8) (de_tup (da_cons (de_ix (de_lst (da_cons de_str (da_cons de_str (da_cons de_str
    (da_cons de_str da_nil))))) (de_var (pv 10)) (fun _ _ => rfl)) (da_cons (de_var (pv 11)) (da_cons (de_var (pv 12)) da_nil))))))) dss_nil)))) (dss_one (ds_ret (de_tup (da_cons
    (de_var (pv 2)) (da_cons (de_var (pv 5)) (da_cons (de_var (pv 7)) (da_cons (de_callHZ (ok_law_any z) hr rfl z.g__law_any tk (pv 0) (da_cons (de_lst (da_cons de_int (da_cons de_int
    (da_cons de_int (da_cons de_int (da_cons de_int da_nil)))))) da_nil)) (da_cons (de_viewTy call_tuple_of ok_vtup rfl z.f_tuple b_tuple (dv_own (pv 8))) da_nil)))))))))))))
/-! _law_timetable: 0 hand, 1 house, 2 most, 3 found, 4 left, 5 name, 6 shaft, 7 place, 8 row, 9 turn -/
abbrev N_law_timetable : List Str := ["hand", "house", "most", "found", "left", "name", "shaft", "place", "row", "turn"]
def s_law_timetable_0 : DSt := (seqD (asgD (opD dMod (callBD cInt (acD (opD dAdd (opD dAdd (vD 7) (cD (.int 1))) (callH w_law_draw 0 (acD (opD dSub (opD dIx (vD 1) (cD (.int 0)))
  (cD (.int 1))) anD))) anD)) (opD dIx (vD 1) (cD (.int 0)))) (gN 7)) (appD 8 (vD 7)))
def s_law_timetable_1 : DSt := (seqD (ownD (lsF anD) 8) (seqD (forD (irD (acD (callBD cMin2 (acD (vD 4) (acD (callH w_law_draw 0 (acD (cD (.int 4)) anD)) anD))) anD)) (gN 9)
  s_law_timetable_0) (seqD (asgD (opD dSub (vD 4) (viewD vLen (ownV 8))) (gN 4)) (appD 3 (viewD vTup (ownV 8))))))
def t_law_timetable : DSt := (seqD (parD [3, 4] (moD (lsF anD) (mvD (vD 2) mnD))) (seqD (forD (itD (opD dIx (vD 1) (cD (.int 4)))) (gT 3 (gn1 (gN 5) (gn1 (gN 6) (gn1 (gN 7) gn0))))
  s_law_timetable_1) (retD (viewD vTup (ownV 3)))))
def w_law_timetable : WpH := wpHOf N_law_timetable 2 t_law_timetable
theorem e_law_timetable {hs : List D} (d0 d1 : D) {Q : List D → Cell → Prop} : w_law_timetable hs [d0, d1] Q = t_law_timetable ⟨fun δ => onOwn (fun hs' => Q hs' (.val .non)) δ[0]?, fun c δ => onOwn (fun hs' => Q hs' c) δ[0]?, fun _ => False, fun _ => False, fun _ _ _ => False⟩ [.own (.lst hs), .val d0, .val d1, .emp, .emp, .emp, .emp, .emp, .emp, .emp] := propext ⟨fun h => h.2, fun h => ⟨rfl, h⟩⟩
theorem sc_law_timetable : FnScope N_law_timetable ["hand", "house", "most"] (defScope (top 87)) := ⟨rfl, rfl, rfl, by decide +kernel, rfl, by decide +kernel, by decide +kernel⟩
theorem ok_law_timetable (z : Zu K mg base) : DefOk P w K mg base 2 "_law_timetable" ["hand", "house", "most"] (spH K w_law_timetable) := by
  obtain ⟨fd, F'⟩ := z.d.def_ 44 (d := dfn "_law_timetable" 87) rfl
  have F : FnP K "_law_timetable" (top 87) fd := F'
  have sc := sc_law_timetable
  refine ⟨fd, defH_ok F sc t_law_timetable (fun cdv A outer s H E g hr tk hp => ?_), F.kp, F.bindsN fun _ _ _ _ _ _ us hl => match us, hl with | [_, _, _], _ => rfl⟩
  have hc : (CtxB P w K mg base N_law_timetable "_law_timetable" (defScope (top 87)) (He.ga K "_law_timetable") cdv A outer s H E).calm = true := rfl
  exact (dss_cons (ds_par hc sc.nd (i := 3) (j := 4) rfl rfl (by decide) rfl rfl (dm_own (df_lst da_nil) (dm_val (de_var (pv 2)) dm_nil)) (by rfl)) (dss_cons (ds_for hp hc (di_tup
    (de_ix (de_var (pv 1)) de_int (fun _ _ => rfl))) (dg_tup hc (dgs_cons (dg_name (pg_name sc.nd (i := 5) rfl (loc_b rfl))) (dgs_cons (dg_name (pg_name sc.nd (i := 6) rfl (loc_b
    rfl))) (dgs_cons (dg_name (pg_name sc.nd (i := 7) rfl (loc_b rfl))) dgs_nil)))) (dss_cons (ds_own (df_lst da_nil) sc.nd rfl (loc_b rfl)) (dss_cons (ds_for hp hc (di_range1 rfl
    z.f_range (da_cons (de_callB (call_min2 hc) ok_min2 rfl z.f_min b_min (da_cons (de_var (pv 4)) (da_cons (de_callHZ (ok_law_draw z) hr rfl z.g__law_draw tk (pv 0) (da_cons de_int
    da_nil)) da_nil))) da_nil)) (dg_name (pg_name sc.nd (i := 9) rfl (loc_b rfl))) (dss_cons (ds_set (de_op op_mod ok_mod (de_callTy call_int1 ok_int rfl z.f_int b_int (da_cons (de_op
    op_add ok_add (de_op op_add ok_add (de_var (pv 7)) de_int) (de_callHZ (ok_law_draw z) hr rfl z.g__law_draw tk (pv 0) (da_cons (de_op op_sub ok_sub (de_ix (de_var (pv 1)) de_int
    (fun _ _ => rfl)) de_int) da_nil))) da_nil)) (de_ix (de_var (pv 1)) de_int (fun _ _ => rfl))) sc.nd rfl (loc_b rfl)) (dss_one (ds_app (pv 8) (de_var (pv 7)))))) (dss_cons (ds_set
    (de_op op_sub ok_sub (de_var (pv 4)) (de_viewB call_len ok_vlen rfl z.f_len b_len (dv_own (pv 8)))) sc.nd rfl (loc_b rfl)) (dss_one (ds_app (pv 3) (de_viewTy call_tuple_of ok_vtup
    rfl z.f_tuple b_tuple (dv_own (pv 8))))))))) (dss_one (ds_ret (de_viewTy call_tuple_of ok_vtup rfl z.f_tuple b_tuple (dv_own (pv 3)))))))
/-! _law_rides: 0 house, 1 timetable, 2 found, 3 mark, 4 at, 5 row, 6 place, 7 i, 8 goal -/
abbrev N_law_rides : List Str := ["house", "timetable", "found", "mark", "at", "row", "place", "i", "goal"]
def s_law_rides_0 : DSt := (seqD (appD 2 (tupD (acD (vD 4) (acD (vD 7) (acD (vD 6) (acD (vD 8) (acD (vD 3) anD))))))) (parD [6, 3] (mvD (vD 8) (mvD (opD dAdd (vD 3) (cD (.int 4)))
  mnD))))
def s_law_rides_1 : DSt := (seqD (asgD (opD dIx (opD dIx (opD dIx (vD 0) (cD (.int 4))) (vD 4)) (cD (.int 2))) (gN 6)) (forD (ietD (acD (vD 5) anD)) (gT 2 (gn1 (gN 7) (gn1 (gN 8)
  gn0))) s_law_rides_0))
def t_law_rides : DSt := (seqD (parD [2, 3] (moD (lsF anD) (mvD (cD (.int 1)) mnD))) (seqD (forD (ietD (acD (vD 1) anD)) (gT 2 (gn1 (gN 4) (gn1 (gN 5) gn0))) s_law_rides_1) (frzD 2
  (retD (vD 2)))))
def w_law_rides : Wp := wpOf N_law_rides 2 t_law_rides
theorem e_law_rides (d0 d1 : D) {Q : Cell → Prop} {E : Str → List D → Prop} : w_law_rides [d0, d1] Q E = t_law_rides ⟨fun _ => Q (.val .non), fun c _ => Q c, fun _ => False, fun _ => False, fun x xs _ => E x xs⟩ [.val d0, .val d1, .emp, .emp, .emp, .emp, .emp, .emp, .emp] := propext ⟨fun h => h.2, fun h => ⟨rfl, h⟩⟩
theorem sc_law_rides : FnScope N_law_rides ["house", "timetable"] (defScope (top 88)) := ⟨rfl, rfl, rfl, by decide +kernel, rfl, by decide +kernel, by decide +kernel⟩
theorem ok_law_rides (z : Zu K mg base) : DefOk P w K mg base 1 "_law_rides" ["house", "timetable"] (spP K w_law_rides) := by
  obtain ⟨fd, F'⟩ := z.d.def_ 45 (d := dfn "_law_rides" 88) rfl
  have F : FnP K "_law_rides" (top 88) fd := F'
  have sc := sc_law_rides
  refine ⟨fd, def_ok F sc t_law_rides (fun cdv A outer s H E g hr tk hp => ?_), F.kp, F.bindsN fun _ _ _ _ _ _ us hl => match us, hl with | [_, _], _ => rfl⟩
  have hc : (CtxB P w K mg base N_law_rides "_law_rides" (defScope (top 88)) (He.ga K "_law_rides") cdv A outer s H E).calm = true := rfl
  exact (dss_cons (ds_par hc sc.nd (i := 2) (j := 3) rfl rfl (by decide) rfl rfl (dm_own (df_lst da_nil) (dm_val de_int dm_nil)) (by rfl)) (dss_cons (ds_for hp hc (di_enumT rfl
    z.f_enumerate (da_cons (de_var (pv 1)) da_nil)) (dg_tup hc (dgs_cons (dg_name (pg_name sc.nd (i := 4) rfl (loc_b rfl))) (dgs_cons (dg_name (pg_name sc.nd (i := 5) rfl (loc_b
    rfl))) dgs_nil))) (dss_cons (ds_set (de_ix (de_ix (de_ix (de_var (pv 0)) de_int (fun _ _ => rfl)) (de_var (pv 4)) (fun _ _ => rfl)) de_int (fun _ _ => rfl)) sc.nd rfl (loc_b rfl))
    (dss_one (ds_for hp hc (di_enumT rfl z.f_enumerate (da_cons (de_var (pv 5)) da_nil)) (dg_tup hc (dgs_cons (dg_name (pg_name sc.nd (i := 7) rfl (loc_b rfl))) (dgs_cons (dg_name
    (pg_name sc.nd (i := 8) rfl (loc_b rfl))) dgs_nil))) (dss_cons (ds_app (pv 2) (de_tup (da_cons (de_var (pv 4)) (da_cons (de_var (pv 7)) (da_cons (de_var (pv 6)) (da_cons (de_var
    (pv 8)) (da_cons (de_var (pv 3)) da_nil))))))) (dss_one (ds_par hc sc.nd (i := 6) (j := 3) rfl rfl (by decide) rfl rfl (dm_val (de_var (pv 8)) (dm_val (de_op op_add ok_add (de_var
    (pv 3)) de_int) dm_nil)) (by rfl)))))))) (dss_freeze 2 (dss_one (ds_ret (de_var (pv 2)))))))
/-! _law_length: 0 house, 1 one, 2 other, 3 far -/
abbrev N_law_length : List Str := ["house", "one", "other", "far"]
def t_law_length : DSt := (seqD (asgD (callBD cAbs (acD (opD dSub (vD 1) (vD 2)) anD)) (gN 3)) (retD (tupD (acD (opD dAdd (opD dIx (opD dIx (vD 0) (cD (.int 1))) (cD (.int 0))) (opD
  dMul (vD 3) (opD dIx (opD dIx (vD 0) (cD (.int 1))) (cD (.int 2))))) (acD (opD dAdd (opD dIx (opD dIx (vD 0) (cD (.int 1))) (cD (.int 1))) (opD dMul (vD 3) (opD dIx (opD dIx (vD
  0) (cD (.int 1))) (cD (.int 3))))) anD)))))
def w_law_length : Wp := wpOf N_law_length 3 t_law_length
theorem e_law_length (d0 d1 d2 : D) {Q : Cell → Prop} {E : Str → List D → Prop} : w_law_length [d0, d1, d2] Q E = t_law_length ⟨fun _ => Q (.val .non), fun c _ => Q c, fun _ => False, fun _ => False, fun x xs _ => E x xs⟩ [.val d0, .val d1, .val d2, .emp] := propext ⟨fun h => h.2, fun h => ⟨rfl, h⟩⟩
theorem sc_law_length : FnScope N_law_length ["house", "one", "other"] (defScope (top 89)) := ⟨rfl, rfl, rfl, by decide +kernel, rfl, by decide +kernel, by decide +kernel⟩
theorem ok_law_length (z : Zu K mg base) : DefOk P w K mg base 1 "_law_length" ["house", "one", "other"] (spP K w_law_length) := by
  obtain ⟨fd, F'⟩ := z.d.def_ 46 (d := dfn "_law_length" 89) rfl
  have F : FnP K "_law_length" (top 89) fd := F'
  have sc := sc_law_length
  refine ⟨fd, def_ok F sc t_law_length (fun cdv A outer s H E g hr tk hp => ?_), F.kp, F.bindsN fun _ _ _ _ _ _ us hl => match us, hl with | [_, _, _], _ => rfl⟩
  have hc : (CtxB P w K mg base N_law_length "_law_length" (defScope (top 89)) (He.ga K "_law_length") cdv A outer s H E).calm = true := rfl
  exact (dss_cons (ds_set (de_callB call_abs ok_abs rfl z.f_abs b_abs (da_cons (de_op op_sub ok_sub (de_var (pv 1)) (de_var (pv 2))) da_nil)) sc.nd rfl (loc_b rfl)) (dss_one (ds_ret
    (de_tup (da_cons (de_op op_add ok_add (de_ix (de_ix (de_var (pv 0)) de_int (fun _ _ => rfl)) de_int (fun _ _ => rfl)) (de_op op_mulB ok_mul (de_var (pv 3)) (de_ix (de_ix (de_var
    (pv 0)) de_int (fun _ _ => rfl)) de_int (fun _ _ => rfl)))) (da_cons (de_op op_add ok_add (de_ix (de_ix (de_var (pv 0)) de_int (fun _ _ => rfl)) de_int (fun _ _ => rfl)) (de_op
    op_mulB ok_mul (de_var (pv 3)) (de_ix (de_ix (de_var (pv 0)) de_int (fun _ _ => rfl)) de_int (fun _ _ => rfl)))) da_nil))))))
/-! _law_moments: 0 hand, 1 house, 2 timetable, 3 found, 4 begin, 5 apart, 6 at, 7 row, 8 place, 9 tick, 10 goal, 11 least, 12 longest, 13 go, 14 come, 15 opens -/
abbrev N_law_moments : List Str := ["hand", "house", "timetable", "found", "begin", "apart", "at", "row", "place", "tick", "goal", "least", "longest", "go", "come", "opens"]
def s_law_moments_0 : DSt := (seqD (asgD (callD w_law_length (acD (vD 1) (acD (vD 8) (acD (vD 10) anD)))) (gT 2 (gn1 (gN 11) (gn1 (gN 12) gn0)))) (seqD (asgD (opD dAdd (vD 9) (callH
  w_law_any 0 (acD (lstD (acD (cD (.int 0)) (acD (cD (.int 0)) (acD (cD (.int 1)) (acD (cD (.int 5)) anD))))) anD))) (gN 13)) (seqD (asgD (opD dAdd (opD dAdd (vD 13) (vD 11)) (callH
  w_law_draw 0 (acD (opD dAdd (opD dSub (vD 12) (vD 11)) (cD (.int 1))) anD))) (gN 14)) (seqD (asgD (opD dAdd (vD 14) (callH w_law_any 0 (acD (lstD (acD (cD (.int 0)) (acD (cD (.int
  0)) (acD (cD (.int 2)) (acD (cD (.int 9)) anD))))) anD))) (gN 15)) (seqD (asgD (opD dAdd (opD dAdd (vD 15) (opD dIx (opD dIx (vD 1) (cD (.int 2))) (cD (.int 0)))) (callH
  w_law_draw 0 (acD (opD dAdd (opD dSub (opD dIx (opD dIx (vD 1) (cD (.int 2))) (cD (.int 1))) (opD dIx (opD dIx (vD 1) (cD (.int 2))) (cD (.int 0)))) (cD (.int 1))) anD))) (gN 9))
  (parD [3, 8] (mvD (opD dCat (vD 3) (lstD (acD (vD 13) (acD (vD 14) (acD (vD 15) (acD (vD 9) anD)))))) (mvD (vD 10) mnD))))))))
def s_law_moments_1 : DSt := (seqD (parD [8, 9] (mvD (opD dIx (opD dIx (opD dIx (vD 1) (cD (.int 4))) (vD 6)) (cD (.int 2))) (mvD (vD 4) mnD))) (seqD (forD (itD (vD 7)) (gN 10)
  s_law_moments_0) (asgD (opD dMul (opD dAdd (vD 9) (cD (.int 5))) (vD 5)) (gN 4))))
def t_law_moments : DSt := (seqD (parD [3, 4, 5] (mvD (lstD (acD (cD (.int 0)) anD)) (mvD (cD (.int 0)) (mvD (callH w_law_draw 0 (acD (cD (.int 2)) anD)) mnD)))) (seqD (forD (ietD
  (acD (vD 2) anD)) (gT 2 (gn1 (gN 6) (gn1 (gN 7) gn0))) s_law_moments_1) (retD (viewD vTup (lstV (vD 3))))))
def w_law_moments : WpH := wpHOf N_law_moments 2 t_law_moments
theorem e_law_moments {hs : List D} (d0 d1 : D) {Q : List D → Cell → Prop} : w_law_moments hs [d0, d1] Q = t_law_moments ⟨fun δ => onOwn (fun hs' => Q hs' (.val .non)) δ[0]?, fun c δ => onOwn (fun hs' => Q hs' c) δ[0]?, fun _ => False, fun _ => False, fun _ _ _ => False⟩ [.own (.lst hs), .val d0, .val d1, .emp, .emp, .emp, .emp, .emp, .emp, .emp, .emp, .emp, .emp, .emp, .emp, .emp] := propext ⟨fun h => h.2, fun h => ⟨rfl, h⟩⟩
theorem sc_law_moments : FnScope N_law_moments ["hand", "house", "timetable"] (defScope (top 90)) := ⟨rfl, rfl, rfl, by decide +kernel, rfl, by decide +kernel, by decide +kernel⟩
theorem ok_law_moments (z : Zu K mg base) : DefOk P w K mg base 3 "_law_moments" ["hand", "house", "timetable"] (spH K w_law_moments) := by
  obtain ⟨fd, F'⟩ := z.d.def_ 47 (d := dfn "_law_moments" 90) rfl
  have F : FnP K "_law_moments" (top 90) fd := F'
  have sc := sc_law_moments
  refine ⟨fd, defH_ok F sc t_law_moments (fun cdv A outer s H E g hr tk hp => ?_), F.kp, F.bindsN fun _ _ _ _ _ _ us hl => match us, hl with | [_, _, _], _ => rfl⟩
  have hc : (CtxB P w K mg base N_law_moments "_law_moments" (defScope (top 90)) (He.ga K "_law_moments") cdv A outer s H E).calm = true := rfl
  exact (dss_cons (ds_par3 hc sc.nd (i := 3) (j := 4) (l := 5) rfl rfl rfl (by decide) (by decide) (by decide) rfl rfl rfl (dm_val (de_lst (da_cons de_int da_nil)) (dm_val de_int
    (dm_val (de_callHZ (ok_law_draw z) hr rfl z.g__law_draw tk (pv 0) (da_cons de_int da_nil)) dm_nil))) (by rfl)) (dss_cons (ds_for hp hc (di_enumT rfl z.f_enumerate (da_cons (de_var
    (pv 2)) da_nil)) (dg_tup hc (dgs_cons (dg_name (pg_name sc.nd (i := 6) rfl (loc_b rfl))) (dgs_cons (dg_name (pg_name sc.nd (i := 7) rfl (loc_b rfl))) dgs_nil))) (dss_cons (ds_par
    hc sc.nd (i := 8) (j := 9) rfl rfl (by decide) rfl rfl (dm_val (de_ix (de_ix (de_ix (de_var (pv 1)) de_int (fun _ _ => rfl)) (de_var (pv 6)) (fun _ _ => rfl)) de_int (fun _ _ =>
    rfl)) (dm_val (de_var (pv 4)) dm_nil)) (by rfl)) (dss_cons (ds_for hp hc (di_tup (de_var (pv 7))) (dg_name (pg_name sc.nd (i := 10) rfl (loc_b rfl))) (dss_cons (ds_asg (de_callZ
    (ok_law_length z) hr rfl z.g__law_length tk (da_cons (de_var (pv 1)) (da_cons (de_var (pv 8)) (da_cons (de_var (pv 10)) da_nil)))) (dg_tup hc (dgs_cons (dg_name (pg_name sc.nd (i
    := 11) rfl (loc_b rfl))) (dgs_cons (dg_name (pg_name sc.nd (i := 12) rfl (loc_b rfl))) dgs_nil)))) (dss_cons (ds_set (de_op op_add ok_add (de_var (pv 9)) (de_callHZ (ok_law_any z)
    hr rfl z.g__law_any tk (pv 0) (da_cons (de_lst (da_cons de_int (da_cons de_int (da_cons de_int (da_cons de_int da_nil))))) da_nil))) sc.nd rfl (loc_b rfl)) (dss_cons (ds_set
    (de_op op_add ok_add (de_op op_add ok_add (de_var (pv 13)) (de_var (pv 11))) (de_callHZ (ok_law_draw z) hr rfl z.g__law_draw tk (pv 0) (da_cons (de_op op_add ok_add (de_op op_sub
    ok_sub (de_var (pv 12)) (de_var (pv 11))) de_int) da_nil))) sc.nd rfl (loc_b rfl)) (dss_cons (ds_set (de_op op_add ok_add (de_var (pv 14)) (de_callHZ (ok_law_any z) hr rfl
    z.g__law_any tk (pv 0) (da_cons (de_lst (da_cons de_int (da_cons de_int (da_cons de_int (da_cons de_int da_nil))))) da_nil))) sc.nd rfl (loc_b rfl)) (dss_cons (ds_set (de_op
    op_add ok_add (de_op op_add ok_add (de_var (pv 15)) (de_ix (de_ix (de_var (pv 1)) de_int (fun _ _ => rfl)) de_int (fun _ _ => rfl))) (de_callHZ (ok_law_draw z) hr rfl
    z.g__law_draw tk (pv 0) (da_cons (de_op op_add ok_add (de_op op_sub ok_sub (de_ix (de_ix (de_var (pv 1)) de_int (fun _ _ => rfl)) de_int (fun _ _ => rfl)) (de_ix (de_ix (de_var
    (pv 1)) de_int (fun _ _ => rfl)) de_int (fun _ _ => rfl))) de_int) da_nil))) sc.nd rfl (loc_b rfl)) (dss_one (ds_par hc sc.nd (i := 3) (j := 8) rfl rfl (by decide) rfl rfl (dm_val
    (de_op op_cat ok_cat (de_var (pv 3)) (de_lst (da_cons (de_var (pv 13)) (da_cons (de_var (pv 14)) (da_cons (de_var (pv 15)) (da_cons (de_var (pv 9)) da_nil)))))) (dm_val (de_var
    (pv 10)) dm_nil)) (by rfl))))))))) (dss_one (ds_set (de_op op_mulB ok_mul (de_op op_add ok_add (de_var (pv 9)) de_int) (de_var (pv 5))) sc.nd rfl (loc_b rfl)))))) (dss_one (ds_ret
    (de_viewTy call_tuple_of ok_vtup rfl z.f_tuple b_tuple (DE.view (de_var (pv 3))))))))
/-! _law_ride_fault: 0 house, 1 timetable, 2 moments, 3 at, 4 i, 5 place, 6 goal, 7 go, 8 least, 9 longest, 10 stand -/
abbrev N_law_ride_fault : List Str := ["house", "timetable", "moments", "at", "i", "place", "goal", "go", "least", "longest", "stand"]
def s_law_ride_fault_0 : DSt := (seqD (asgD (callD w_law_length (acD (vD 0) (acD (vD 5) (acD (vD 6) anD)))) (gT 2 (gn1 (gN 8) (gn1 (gN 9) gn0)))) (seqD (ifS (orD (notD (tD (chD dLe
  dLe (vD 8) (opD dSub (opD dIx (vD 2) (opD dAdd (vD 7) (cD (.int 1)))) (opD dIx (vD 2) (vD 7))) (vD 9)))) (andD (tD (opD dGt (vD 4) (cD (.int 0)))) (tD (opD dLt (opD dIx (vD 2) (vD
  7)) (opD dIx (vD 2) (opD dSub (vD 7) (cD (.int 1)))))))) (retD (tupD (acD (cD (.str "ride")) (acD (opD dIx (opD dIx (opD dIx (vD 0) (cD (.int 4))) (vD 3)) (cD (.int 0))) (acD (vD
  4) anD))))) nextD) (seqD (asgD (opD dSub (opD dIx (vD 2) (opD dAdd (vD 7) (cD (.int 3)))) (opD dIx (vD 2) (opD dAdd (vD 7) (cD (.int 2))))) (gN 10)) (ifS (orD (tD (opD dLt (opD
  dIx (vD 2) (opD dAdd (vD 7) (cD (.int 2)))) (opD dIx (vD 2) (opD dAdd (vD 7) (cD (.int 1)))))) (notD (tD (chD dLe dLe (opD dIx (opD dIx (vD 0) (cD (.int 2))) (cD (.int 0))) (vD
  10) (opD dIx (opD dIx (vD 0) (cD (.int 2))) (cD (.int 1))))))) (retD (tupD (acD (cD (.str "doors")) (acD (opD dIx (opD dIx (opD dIx (vD 0) (cD (.int 4))) (vD 3)) (cD (.int 0)))
  (acD (vD 4) anD))))) nextD))))
def t_law_ride_fault : DSt := (seqD (forD (ilD (callD w_law_rides (acD (vD 0) (acD (vD 1) anD)))) (gT 5 (gn1 (gN 3) (gn1 (gN 4) (gn1 (gN 5) (gn1 (gN 6) (gn1 (gN 7) gn0))))))
  s_law_ride_fault_0) (retD (cD .non)))
def w_law_ride_fault : Wp := wpOf N_law_ride_fault 3 t_law_ride_fault
theorem e_law_ride_fault (d0 d1 d2 : D) {Q : Cell → Prop} {E : Str → List D → Prop} : w_law_ride_fault [d0, d1, d2] Q E = t_law_ride_fault ⟨fun _ => Q (.val .non), fun c _ => Q c, fun _ => False, fun _ => False, fun x xs _ => E x xs⟩ [.val d0, .val d1, .val d2, .emp, .emp, .emp, .emp, .emp, .emp, .emp, .emp] := propext ⟨fun h => h.2, fun h => ⟨rfl, h⟩⟩
theorem sc_law_ride_fault : FnScope N_law_ride_fault ["house", "timetable", "moments"] (defScope (top 92)) := ⟨rfl, rfl, rfl, by decide +kernel, rfl, by decide +kernel, by decide +kernel⟩
theorem ok_law_ride_fault (z : Zu K mg base) : DefOk P w K mg base 2 "_law_ride_fault" ["house", "timetable", "moments"] (spP K w_law_ride_fault) := by
  obtain ⟨fd, F'⟩ := z.d.def_ 49 (d := dfn "_law_ride_fault" 92) rfl
  have F : FnP K "_law_ride_fault" (top 92) fd := F'
  have sc := sc_law_ride_fault
  refine ⟨fd, def_ok F sc t_law_ride_fault (fun cdv A outer s H E g hr tk hp => ?_), F.kp, F.bindsN fun _ _ _ _ _ _ us hl => match us, hl with | [_, _, _], _ => rfl⟩
  have hc : (CtxB P w K mg base N_law_ride_fault "_law_ride_fault" (defScope (top 92)) (He.ga K "_law_ride_fault") cdv A outer s H E).calm = true := rfl
  exact (dss_cons (ds_for hp hc (di_list (de_callZ (ok_law_rides z) hr rfl z.g__law_rides tk (da_cons (de_var (pv 0)) (da_cons (de_var (pv 1)) da_nil)))) (dg_tup hc (dgs_cons (dg_name
    (pg_name sc.nd (i := 3) rfl (loc_b rfl))) (dgs_cons (dg_name (pg_name sc.nd (i := 4) rfl (loc_b rfl))) (dgs_cons (dg_name (pg_name sc.nd (i := 5) rfl (loc_b rfl))) (dgs_cons
    (dg_name (pg_name sc.nd (i := 6) rfl (loc_b rfl))) (dgs_cons (dg_name (pg_name sc.nd (i := 7) rfl (loc_b rfl))) dgs_nil)))))) (dss_cons (ds_asg (de_callZ (ok_law_length z) hr rfl
    z.g__law_length tk (da_cons (de_var (pv 0)) (da_cons (de_var (pv 5)) (da_cons (de_var (pv 6)) da_nil)))) (dg_tup hc (dgs_cons (dg_name (pg_name sc.nd (i := 8) rfl (loc_b rfl)))
    (dgs_cons (dg_name (pg_name sc.nd (i := 9) rfl (loc_b rfl))) dgs_nil)))) (dss_cons (ds_if (DW.dt (dw_or (dt_not (dt_chain op_le ok_le op_le ok_le (de_var (pv 8)) (de_op op_sub
    ok_sub (de_ix (de_var (pv 2)) (de_op op_add ok_add (de_var (pv 7)) de_int) (fun _ _ => rfl)) (de_ix (de_var (pv 2)) (de_var (pv 7)) (fun _ _ => rfl))) (de_var (pv 9)))) (dw_or1
    (DW.dt (dw_and (dt_cmp op_gt ok_gt (de_var (pv 4)) de_int (nomark _)) (dw_and1 (dt_cmp op_lt ok_lt (de_ix (de_var (pv 2)) (de_var (pv 7)) (fun _ _ => rfl)) (de_ix (de_var (pv 2))
    (de_op op_sub ok_sub (de_var (pv 7)) de_int) (fun _ _ => rfl)) (nomark _)))))))) (dss_one (ds_ret (de_tup (da_cons de_str (da_cons (de_ix (de_ix (de_ix (de_var (pv 0)) de_int (fun
    _ _ => rfl)) (de_var (pv 3)) (fun _ _ => rfl)) de_int (fun _ _ => rfl)) (da_cons (de_var (pv 4)) da_nil)))))) dss_nil) (dss_cons (ds_set (de_op op_sub ok_sub (de_ix (de_var (pv
    2)) (de_op op_add ok_add (de_var (pv 7)) de_int) (fun _ _ => rfl)) (de_ix (de_var (pv 2)) (de_op op_add ok_add (de_var (pv 7)) de_int) (fun _ _ => rfl))) sc.nd rfl (loc_b rfl))
    (dss_one (ds_if (DW.dt (dw_or (dt_cmp op_lt ok_lt (de_ix (de_var (pv 2)) (de_op op_add ok_add (de_var (pv 7)) de_int) (fun _ _ => rfl)) (de_ix (de_var (pv 2)) (de_op op_add ok_add
    (de_var (pv 7)) de_int) (fun _ _ => rfl)) (nomark _)) (dw_or1 (dt_not (dt_chain op_le ok_le op_le ok_le (de_ix (de_ix (de_var (pv 0)) de_int (fun _ _ => rfl)) de_int (fun _ _ =>
    rfl)) (de_var (pv 10)) (de_ix (de_ix (de_var (pv 0)) de_int (fun _ _ => rfl)) de_int (fun _ _ => rfl))))))) (dss_one (ds_ret (de_tup (da_cons de_str (da_cons (de_ix (de_ix (de_ix
    (de_var (pv 0)) de_int (fun _ _ => rfl)) (de_var (pv 3)) (fun _ _ => rfl)) de_int (fun _ _ => rfl)) (da_cons (de_var (pv 4)) da_nil)))))) dss_nil)))))) (dss_one (ds_ret de_non)))
/-! _law_bent: 0 hand, 1 moments, 2 found, 3 turn, 4 at -/
abbrev N_law_bent : List Str := ["hand", "moments", "found", "turn", "at"]
def s_law_bent_0 : DSt := (seqD (asgD (callH w_law_draw 0 (acD (viewD vLen (ownV 2)) anD)) (gN 4)) (setD 2 (vD 4) (opD dMul (callBD cMax2 (acD (cD (.int 0)) (acD (opD dAdd (ixO 2
  (vD 4)) (callH w_law_any 0 (acD (lstD (acD (cD (.int 1)) (acD (negD (cD (.int 1))) (acD (cD (.int 2)) (acD (negD (cD (.int 3))) (acD (cD (.int 10)) (acD (negD (cD (.int 10)))
  anD))))))) anD))) anD))) (callBD cInt (acD (opD dGt (vD 4) (cD (.int 0))) anD)))))
def t_law_bent : DSt := (seqD (ownD (seqV (vD 1)) 2) (seqD (forD (irD (acD (opD dAdd (cD (.int 1)) (callH w_law_draw 0 (acD (cD (.int 2)) anD))) anD)) (gN 3) s_law_bent_0) (retD
  (viewD vTup (ownV 2)))))
def w_law_bent : WpH := wpHOf N_law_bent 1 t_law_bent
theorem e_law_bent {hs : List D} (d0 : D) {Q : List D → Cell → Prop} : w_law_bent hs [d0] Q = t_law_bent ⟨fun δ => onOwn (fun hs' => Q hs' (.val .non)) δ[0]?, fun c δ => onOwn (fun hs' => Q hs' c) δ[0]?, fun _ => False, fun _ => False, fun _ _ _ => False⟩ [.own (.lst hs), .val d0, .emp, .emp, .emp] := propext ⟨fun h => h.2, fun h => ⟨rfl, h⟩⟩
theorem sc_law_bent : FnScope N_law_bent ["hand", "moments"] (defScope (top 93)) := ⟨rfl, rfl, rfl, by decide +kernel, rfl, by decide +kernel, by decide +kernel⟩
theorem ok_law_bent (z : Zu K mg base) : DefOk P w K mg base 3 "_law_bent" ["hand", "moments"] (spH K w_law_bent) := by
  obtain ⟨fd, F'⟩ := z.d.def_ 50 (d := dfn "_law_bent" 93) rfl
  have F : FnP K "_law_bent" (top 93) fd := F'
  have sc := sc_law_bent
  refine ⟨fd, defH_ok F sc t_law_bent (fun cdv A outer s H E g hr tk hp => ?_), F.kp, F.bindsN fun _ _ _ _ _ _ us hl => match us, hl with | [_, _], _ => rfl⟩
  have hc : (CtxB P w K mg base N_law_bent "_law_bent" (defScope (top 93)) (He.ga K "_law_bent") cdv A outer s H E).calm = true := rfl
  exact (dss_cons (ds_own (df_list rfl z.f_list b_list (de_var (pv 1))) sc.nd rfl (loc_b rfl)) (dss_cons (ds_for hp hc (di_range1 rfl z.f_range (da_cons (de_op op_add ok_add de_int
    (de_callHZ (ok_law_draw z) hr rfl z.g__law_draw tk (pv 0) (da_cons de_int da_nil))) da_nil)) (dg_name (pg_name sc.nd (i := 3) rfl (loc_b rfl))) (dss_cons (ds_set (de_callHZ
    (ok_law_draw z) hr rfl z.g__law_draw tk (pv 0) (da_cons (de_viewB call_len ok_vlen rfl z.f_len b_len (dv_own (pv 2))) da_nil)) sc.nd rfl (loc_b rfl)) (dss_one (ds_seti (pv 2)
    (de_var (pv 4)) (de_op op_mulB ok_mul (de_callB (call_max2 hc) ok_max2 rfl z.f_max b_max (da_cons de_int (da_cons (de_op op_add ok_add (de_ixV (pv 2) (de_var (pv 4)) (fun _ _ =>
    rfl)) (de_callHZ (ok_law_any z) hr rfl z.g__law_any tk (pv 0) (da_cons (de_lst (da_cons de_int (da_cons (de_neg de_int) (da_cons de_int (da_cons (de_neg de_int) (da_cons de_int
    (da_cons (de_neg de_int) da_nil))))))) da_nil))) da_nil))) (de_callTy call_int1 ok_int rfl z.f_int b_int (da_cons (de_cmp op_gt ok_gt (de_var (pv 4)) de_int (nomark _))
    da_nil))))))) (dss_one (ds_ret (de_viewTy call_tuple_of ok_vtup rfl z.f_tuple b_tuple (dv_own (pv 2)))))))
/-! _law_where: 0 house, 1 timetable, 2 moments, 3 at, 4 tick, 5 here, 6 number, 7 i, 8 place, 9 goal, 10 go -/
abbrev N_law_where : List Str := ["house", "timetable", "moments", "at", "tick", "here", "number", "i", "place", "goal", "go"]
def s_law_where_0 : DSt := (seqD (ifS (andD (tD (opD dEq (vD 6) (vD 3))) (tD (chD dLt dLt (opD dIx (vD 2) (vD 10)) (vD 4) (opD dIx (vD 2) (opD dAdd (vD 10) (cD (.int 1))))))) (retD
  (tupD (acD (vD 8) (acD (vD 9) anD)))) nextD) (ifS (andD (tD (opD dEq (vD 6) (vD 3))) (tD (opD dGe (vD 4) (opD dIx (vD 2) (opD dAdd (vD 10) (cD (.int 1))))))) (asgD (vD 9) (gN 5))
  nextD))
def t_law_where : DSt := (seqD (asgD (opD dIx (opD dIx (opD dIx (vD 0) (cD (.int 4))) (vD 3)) (cD (.int 2))) (gN 5)) (seqD (forD (ilD (callD w_law_rides (acD (vD 0) (acD (vD 1)
  anD)))) (gT 5 (gn1 (gN 6) (gn1 (gN 7) (gn1 (gN 8) (gn1 (gN 9) (gn1 (gN 10) gn0)))))) s_law_where_0) (retD (vD 5))))
def w_law_where : Wp := wpOf N_law_where 5 t_law_where
theorem e_law_where (d0 d1 d2 d3 d4 : D) {Q : Cell → Prop} {E : Str → List D → Prop} : w_law_where [d0, d1, d2, d3, d4] Q E = t_law_where ⟨fun _ => Q (.val .non), fun c _ => Q c, fun _ => False, fun _ => False, fun x xs _ => E x xs⟩ [.val d0, .val d1, .val d2, .val d3, .val d4, .emp, .emp, .emp, .emp, .emp, .emp] := propext ⟨fun h => h.2, fun h => ⟨rfl, h⟩⟩
theorem sc_law_where : FnScope N_law_where ["house", "timetable", "moments", "at", "tick"] (defScope (top 94)) := ⟨rfl, rfl, rfl, by decide +kernel, rfl, by decide +kernel, by decide +kernel⟩
theorem ok_law_where (z : Zu K mg base) : DefOk P w K mg base 2 "_law_where" ["house", "timetable", "moments", "at", "tick"] (spP K w_law_where) := by
  obtain ⟨fd, F'⟩ := z.d.def_ 51 (d := dfn "_law_where" 94) rfl
  have F : FnP K "_law_where" (top 94) fd := F'
  have sc := sc_law_where
  refine ⟨fd, def_ok F sc t_law_where (fun cdv A outer s H E g hr tk hp => ?_), F.kp, F.bindsN fun _ _ _ _ _ _ us hl => match us, hl with | [_, _, _, _, _], _ => rfl⟩
  have hc : (CtxB P w K mg base N_law_where "_law_where" (defScope (top 94)) (He.ga K "_law_where") cdv A outer s H E).calm = true := rfl
  exact (dss_cons (ds_set (de_ix (de_ix (de_ix (de_var (pv 0)) de_int (fun _ _ => rfl)) (de_var (pv 3)) (fun _ _ => rfl)) de_int (fun _ _ => rfl)) sc.nd rfl (loc_b rfl)) (dss_cons
    (ds_for hp hc (di_list (de_callZ (ok_law_rides z) hr rfl z.g__law_rides tk (da_cons (de_var (pv 0)) (da_cons (de_var (pv 1)) da_nil)))) (dg_tup hc (dgs_cons (dg_name (pg_name
    sc.nd (i := 6) rfl (loc_b rfl))) (dgs_cons (dg_name (pg_name sc.nd (i := 7) rfl (loc_b rfl))) (dgs_cons (dg_name (pg_name sc.nd (i := 8) rfl (loc_b rfl))) (dgs_cons (dg_name
    (pg_name sc.nd (i := 9) rfl (loc_b rfl))) (dgs_cons (dg_name (pg_name sc.nd (i := 10) rfl (loc_b rfl))) dgs_nil)))))) (dss_cons (ds_if (DW.dt (dw_and (dt_cmp op_eq ok_eq (de_var
    (pv 6)) (de_var (pv 3)) (nomark _)) (dw_and1 (dt_chain op_lt ok_lt op_lt ok_lt (de_ix (de_var (pv 2)) (de_var (pv 10)) (fun _ _ => rfl)) (de_var (pv 4)) (de_ix (de_var (pv 2))
    (de_op op_add ok_add (de_var (pv 10)) de_int) (fun _ _ => rfl)))))) (dss_one (ds_ret (de_tup (da_cons (de_var (pv 8)) (da_cons (de_var (pv 9)) da_nil))))) dss_nil) (dss_one (ds_if
    (DW.dt (dw_and (dt_cmp op_eq ok_eq (de_var (pv 6)) (de_var (pv 3)) (nomark _)) (dw_and1 (dt_cmp op_ge ok_ge (de_var (pv 4)) (de_ix (de_var (pv 2)) (de_op op_add ok_add (de_var (pv
    10)) de_int) (fun _ _ => rfl)) (nomark _))))) (dss_one (ds_set (de_var (pv 9)) sc.nd rfl (loc_b rfl))) dss_nil)))) (dss_one (ds_ret (de_var (pv 5))))))
/-! _law_ticks: 0 hand, 1 moments, 2 found, 3 turn, 4 here -/
abbrev N_law_ticks : List Str := ["hand", "moments", "found", "turn", "here"]
def s_law_ticks_0 : DSt := (seqD (asgD (callH w_law_any 0 (acD (vD 1) anD)) (gN 4)) (asgD (opD dCat (vD 2) (lstD (acD (vD 4) (acD (opD dAdd (vD 4) (cD (.int 1))) (acD (callBD cMax2
  (acD (cD (.int 0)) (acD (opD dSub (vD 4) (cD (.int 1))) anD))) anD))))) (gN 2)))
def t_law_ticks : DSt := (seqD (asgD (lstD (acD (cD (.int 0)) (acD (callBD cMaxT (acD (vD 1) anD)) (acD (opD dAdd (callBD cMaxT (acD (vD 1) anD)) (cD (.int 1))) (acD (opD dPow (cD
  (.int 10)) (cD (.int 11))) (acD (callH w_law_draw 0 (acD (opD dAdd (callBD cMaxT (acD (vD 1) anD)) (cD (.int 1))) anD)) anD)))))) (gN 2)) (seqD (forD (irD (acD (cD (.int 8)) anD))
  (gN 3) s_law_ticks_0) (retD (vD 2))))
def w_law_ticks : WpH := wpHOf N_law_ticks 1 t_law_ticks
theorem e_law_ticks {hs : List D} (d0 : D) {Q : List D → Cell → Prop} : w_law_ticks hs [d0] Q = t_law_ticks ⟨fun δ => onOwn (fun hs' => Q hs' (.val .non)) δ[0]?, fun c δ => onOwn (fun hs' => Q hs' c) δ[0]?, fun _ => False, fun _ => False, fun _ _ _ => False⟩ [.own (.lst hs), .val d0, .emp, .emp, .emp] := propext ⟨fun h => h.2, fun h => ⟨rfl, h⟩⟩
theorem sc_law_ticks : FnScope N_law_ticks ["hand", "moments"] (defScope (top 95)) := ⟨rfl, rfl, rfl, by decide +kernel, rfl, by decide +kernel, by decide +kernel⟩
theorem ok_law_ticks (z : Zu K mg base) : DefOk P w K mg base 3 "_law_ticks" ["hand", "moments"] (spH K w_law_ticks) := by
  obtain ⟨fd, F'⟩ := z.d.def_ 52 (d := dfn "_law_ticks" 95) rfl
  have F : FnP K "_law_ticks" (top 95) fd := F'
  have sc := sc_law_ticks
  refine ⟨fd, defH_ok F sc t_law_ticks (fun cdv A outer s H E g hr tk hp => ?_), F.kp, F.bindsN fun _ _ _ _ _ _ us hl => match us, hl with | [_, _], _ => rfl⟩
  have hc : (CtxB P w K mg base N_law_ticks "_law_ticks" (defScope (top 95)) (He.ga K "_law_ticks") cdv A outer s H E).calm = true := rfl
  exact (dss_cons (ds_set (de_lst (da_cons de_int (da_cons (de_callB (call_maxT hc (hu_64 hr)) ok_maxT rfl z.f_max b_max (da_cons (de_var (pv 1)) da_nil)) (da_cons (de_op op_add
    ok_add (de_callB (call_maxT hc (hu_64 hr)) ok_maxT rfl z.f_max b_max (da_cons (de_var (pv 1)) da_nil)) de_int) (da_cons (de_op op_pow ok_pow de_int de_int) (da_cons (de_callHZ
    (ok_law_draw z) hr rfl z.g__law_draw tk (pv 0) (da_cons (de_op op_add ok_add (de_callB (call_maxT hc (hu_64 hr)) ok_maxT rfl z.f_max b_max (da_cons (de_var (pv 1)) da_nil))
    de_int) da_nil)) da_nil)))))) sc.nd rfl (loc_b rfl)) (dss_cons (ds_for hp hc (di_range1 rfl z.f_range (da_cons de_int da_nil)) (dg_name (pg_name sc.nd (i := 3) rfl (loc_b rfl)))
    (dss_cons (ds_set (de_callHZ (ok_law_any z) hr rfl z.g__law_any tk (pv 0) (da_cons (de_var (pv 1)) da_nil)) sc.nd rfl (loc_b rfl)) (dss_one (ds_set (de_op op_cat ok_cat (de_var
    (pv 2)) (de_lst (da_cons (de_var (pv 4)) (da_cons (de_op op_add ok_add (de_var (pv 4)) de_int) (da_cons (de_callB (call_max2 hc) ok_max2 rfl z.f_max b_max (da_cons de_int (da_cons
    (de_op op_sub ok_sub (de_var (pv 4)) de_int) da_nil))) da_nil))))) sc.nd rfl (loc_b rfl))))) (dss_one (ds_ret (de_var (pv 2))))))
theorem sc_word : FnScope NW ["call"] (defScope (top 96)) := ⟨rfl, rfl, rfl, by decide +kernel, rfl, by decide +kernel, by decide +kernel⟩
theorem de_wordZ (z : Zu K mg base) {X : Cx} (hX : X.K = K ∧ X.mg = mg ∧ X.base = base) {pd : He.Defn} {k : Nat} {params : Arguments} {body : Expr} {scope : Scope} {eb : DEx} {g0 : GX} {W : WX} {p lpos pos : Pos} (hr : Room (k + 2) X.A) (lo : LamOk X pd) (hg : Gl X "_law_word") (L : LamX.LamS X.env.scope scope) (hdef : defaultsOf params X.env = ([], []))
    (hbind : ∀ (q : Str) (cl : List (Str × Addr)) (pm cv ctv : Value), bindArgs (PySem.W.kla_fn "<lambda>" q params body scope cl pm cv ctv) ⟨[], []⟩ = pure [])
    (hbody : ∀ (A : Around) (outer : List Env) (s : Shared) (H : Hp) (E : XK) (f c' : Addr), Room k (A.deeper (LamX.lamEnv X scope s.heap.objs.size f c')) → Takes (LamX.lamCx X A outer s H E scope f c') (wE E) → DE (LamX.lamCx X A outer s H E scope f c') g0 (wE E) body eb) :
    DE X g0 W (.Call (.Name "_law_word" p) [.Lambda params body scope lpos] [] pos) (lamD "BadMoments" "moments" eb) := by
  obtain ⟨hK, hm, hb⟩ := hX
  subst hK hm hb
  obtain ⟨fd, F'⟩ := z.d.def_ 53 (d := dfn "_law_word" 96) rfl
  have F : FnP X.K "_law_word" (top 96) fd := F'
  have bs : Binds X.K fd ["call"] [] := F.bindsN fun _ _ _ _ _ _ us hl => match us, hl with | [_], _ => rfl
  obtain ⟨oc, od, dV, kV, doc, pm, an, cdv, ct, osl, e, lk, hcd, _, _⟩ := F.ex
  subst e
  exact de_word lo hg z.g__law_word F.kp lk hcd bs sc_word rfl (.inl rfl) (word_gives (C := "CabError") ⟨z.g_CabError, z.g_BadMoments, z.f_isinstance, z.f_ValueError, z.ec_BadMoments.1, z.ec_BadMoments.2.1, z.ec_BadMoments.2.2, z.x_BadMoments_CabError⟩ rfl rfl rfl rfl rfl rfl rfl rfl rfl (fun _ => rfl) (fun _ => rfl) (fun _ => rfl)) hr L hdef hbind hbody
/-! _law_marks_right: 0 built, 1 house, 2 timetable, 3 words, 4 at, 5 i, 6 place, 7 goal, 8 go, 9 name, 10 word -/
abbrev N_law_marks_right : List Str := ["built", "house", "timetable", "words", "at", "i", "place", "goal", "go", "name", "word"]
def s_law_marks_right_0 : DSt := (seqD (asgD (opD dIx (opD dIx (opD dIx (vD 1) (cD (.int 4))) (vD 4)) (cD (.int 0))) (gN 9)) (ifS (notD (tD (callD w_law_is (acD (frD (lcF (ilD (vD
  3)) (gN 10) yesD (callD w_mark_of (acD (vD 0) (acD (vD 2) (acD (vD 9) (acD (vD 5) (acD (vD 10) anD)))))) [10])) (acD (lstD (acD (vD 8) (acD (opD dAdd (vD 8) (cD (.int 1))) (acD
  (opD dAdd (vD 8) (cD (.int 2))) (acD (opD dAdd (vD 8) (cD (.int 3))) anD))))) anD))))) (retD (cD (.bl false))) nextD))
def t_law_marks_right : DSt := (seqD (asgD (lstD (acD (cD (.str "go")) (acD (cD (.str "come")) (acD (cD (.str "doors")) (acD (cD (.str "shut")) anD))))) (gN 3)) (seqD (forD (ilD
  (callD w_law_rides (acD (vD 1) (acD (vD 2) anD)))) (gT 5 (gn1 (gN 4) (gn1 (gN 5) (gn1 (gN 6) (gn1 (gN 7) (gn1 (gN 8) gn0)))))) s_law_marks_right_0) (retD (cD (.bl true)))))
def w_law_marks_right : Wp := wpOf N_law_marks_right 3 t_law_marks_right
theorem e_law_marks_right (d0 d1 d2 : D) {Q : Cell → Prop} {E : Str → List D → Prop} : w_law_marks_right [d0, d1, d2] Q E = t_law_marks_right ⟨fun _ => Q (.val .non), fun c _ => Q c, fun _ => False, fun _ => False, fun x xs _ => E x xs⟩ [.val d0, .val d1, .val d2, .emp, .emp, .emp, .emp, .emp, .emp, .emp, .emp] := propext ⟨fun h => h.2, fun h => ⟨rfl, h⟩⟩
theorem sc_law_marks_right : FnScope N_law_marks_right ["built", "house", "timetable"] (defScope (top 97)) := ⟨rfl, rfl, rfl, by decide +kernel, rfl, by decide +kernel, by decide +kernel⟩
theorem ok_law_marks_right (z : Zu K mg base) : DefOk P w K mg base 8 "_law_marks_right" ["built", "house", "timetable"] (spP K w_law_marks_right) := by
  obtain ⟨fd, F'⟩ := z.d.def_ 54 (d := dfn "_law_marks_right" 97) rfl
  have F : FnP K "_law_marks_right" (top 97) fd := F'
  have sc := sc_law_marks_right
  refine ⟨fd, def_ok F sc t_law_marks_right (fun cdv A outer s H E g hr tk hp => ?_), F.kp, F.bindsN fun _ _ _ _ _ _ us hl => match us, hl with | [_, _, _], _ => rfl⟩
  have hc : (CtxB P w K mg base N_law_marks_right "_law_marks_right" (defScope (top 97)) (He.ga K "_law_marks_right") cdv A outer s H E).calm = true := rfl
  exact (dss_cons (ds_set (de_lst (da_cons de_str (da_cons de_str (da_cons de_str (da_cons de_str da_nil))))) sc.nd rfl (loc_b rfl)) (dss_cons (ds_for hp hc (di_list (de_callZ
    (ok_law_rides z) hr rfl z.g__law_rides tk (da_cons (de_var (pv 1)) (da_cons (de_var (pv 2)) da_nil)))) (dg_tup hc (dgs_cons (dg_name (pg_name sc.nd (i := 4) rfl (loc_b rfl)))
    (dgs_cons (dg_name (pg_name sc.nd (i := 5) rfl (loc_b rfl))) (dgs_cons (dg_name (pg_name sc.nd (i := 6) rfl (loc_b rfl))) (dgs_cons (dg_name (pg_name sc.nd (i := 7) rfl (loc_b
    rfl))) (dgs_cons (dg_name (pg_name sc.nd (i := 8) rfl (loc_b rfl))) dgs_nil)))))) (dss_cons (ds_set (de_ix (de_ix (de_ix (de_var (pv 1)) de_int (fun _ _ => rfl)) (de_var (pv 4))
    (fun _ _ => rfl)) de_int (fun _ _ => rfl)) sc.nd rfl (loc_b rfl)) (dss_one (ds_if (dt_not (dt_val (de_callZ (ok_law_is z) hr rfl z.g__law_is tk (da_cons (DF.de (df_lc hc sc.nd
    (di_list (de_var (pv 3))) (own := [("word", 10)]) (blkOk_by (by kernel_rfl)) (by decide) (fun s' H' C cl fp => (dg_name (pg_name sc.nd (i := 10) rfl (loc_b rfl)))) (fun s' H' C cl
    fp => dts_nil) (fun s' H' C cl fp => (de_callZ (ok_mark_of z) hr rfl z.g_mark_of takes0 (da_cons (de_var (pv 0)) (da_cons (de_var (pv 2)) (da_cons (de_var (pv 9)) (da_cons (de_var
    (pv 5)) (da_cons (de_var (pv 10)) da_nil))))))))) (da_cons (de_lst (da_cons (de_var (pv 8)) (da_cons (de_op op_add ok_add (de_var (pv 8)) de_int) (da_cons (de_op op_add ok_add
    (de_var (pv 8)) de_int) (da_cons (de_op op_add ok_add (de_var (pv 8)) de_int) da_nil))))) da_nil))))) (dss_one (ds_ret de_bl)) dss_nil)))) (dss_one (ds_ret de_bl))))
/-! _law_stands_right: 0 built, 1 house, 2 timetable, 3 moments, 4 at, 5 i, 6 place, 7 goal, 8 go, 9 name, 10 ticks, 11 tick -/
abbrev N_law_stands_right : List Str := ["built", "house", "timetable", "moments", "at", "i", "place", "goal", "go", "name", "ticks", "tick"]
def s_law_stands_right_0 : DSt := (seqD (asgD (opD dIx (opD dIx (opD dIx (vD 1) (cD (.int 4))) (vD 4)) (cD (.int 0))) (gN 9)) (seqD (asgD (lstD (acD (opD dIx (vD 3) (opD dAdd (vD 8)
  (cD (.int 1)))) (acD (opD dIx (vD 3) (opD dAdd (vD 8) (cD (.int 2)))) (acD (opD dIx (vD 3) (opD dAdd (vD 8) (cD (.int 3)))) anD)))) (gN 10)) (seqD (ifS (notD (tD (callD w_law_is
  (acD (frD (lcF (ilD (vD 10)) (gN 11) yesD (callD w_floor_of (acD (vD 0) (acD (vD 2) (acD (vD 3) (acD (vD 9) (acD (vD 11) anD)))))) [11])) (acD (opD dRep (lstD (acD (vD 7) anD))
  (cD (.int 3))) anD))))) (retD (cD (.bl false))) nextD) (ifS (notD (tD (callD w_law_is (acD (callD w_floor_of (acD (vD 0) (acD (vD 2) (acD (vD 3) (acD (vD 9) (acD (opD dIx (vD 3)
  (vD 8)) anD)))))) (acD (vD 6) anD))))) (retD (cD (.bl false))) nextD))))
def t_law_stands_right : DSt := (seqD (forD (ilD (callD w_law_rides (acD (vD 1) (acD (vD 2) anD)))) (gT 5 (gn1 (gN 4) (gn1 (gN 5) (gn1 (gN 6) (gn1 (gN 7) (gn1 (gN 8) gn0))))))
  s_law_stands_right_0) (retD (cD (.bl true))))
def w_law_stands_right : Wp := wpOf N_law_stands_right 4 t_law_stands_right
theorem e_law_stands_right (d0 d1 d2 d3 : D) {Q : Cell → Prop} {E : Str → List D → Prop} : w_law_stands_right [d0, d1, d2, d3] Q E = t_law_stands_right ⟨fun _ => Q (.val .non), fun c _ => Q c, fun _ => False, fun _ => False, fun x xs _ => E x xs⟩ [.val d0, .val d1, .val d2, .val d3, .emp, .emp, .emp, .emp, .emp, .emp, .emp, .emp] := propext ⟨fun h => h.2, fun h => ⟨rfl, h⟩⟩
theorem sc_law_stands_right : FnScope N_law_stands_right ["built", "house", "timetable", "moments"] (defScope (top 98)) := ⟨rfl, rfl, rfl, by decide +kernel, rfl, by decide +kernel, by decide +kernel⟩
theorem ok_law_stands_right (z : Zu K mg base) : DefOk P w K mg base 8 "_law_stands_right" ["built", "house", "timetable", "moments"] (spP K w_law_stands_right) := by
  obtain ⟨fd, F'⟩ := z.d.def_ 55 (d := dfn "_law_stands_right" 98) rfl
  have F : FnP K "_law_stands_right" (top 98) fd := F'
  have sc := sc_law_stands_right
  refine ⟨fd, def_ok F sc t_law_stands_right (fun cdv A outer s H E g hr tk hp => ?_), F.kp, F.bindsN fun _ _ _ _ _ _ us hl => match us, hl with | [_, _, _, _], _ => rfl⟩
  have hc : (CtxB P w K mg base N_law_stands_right "_law_stands_right" (defScope (top 98)) (He.ga K "_law_stands_right") cdv A outer s H E).calm = true := rfl
  exact (dss_cons (ds_for hp hc (di_list (de_callZ (ok_law_rides z) hr rfl z.g__law_rides tk (da_cons (de_var (pv 1)) (da_cons (de_var (pv 2)) da_nil)))) (dg_tup hc (dgs_cons (dg_name
    (pg_name sc.nd (i := 4) rfl (loc_b rfl))) (dgs_cons (dg_name (pg_name sc.nd (i := 5) rfl (loc_b rfl))) (dgs_cons (dg_name (pg_name sc.nd (i := 6) rfl (loc_b rfl))) (dgs_cons
    (dg_name (pg_name sc.nd (i := 7) rfl (loc_b rfl))) (dgs_cons (dg_name (pg_name sc.nd (i := 8) rfl (loc_b rfl))) dgs_nil)))))) (dss_cons (ds_set (de_ix (de_ix (de_ix (de_var (pv
    1)) de_int (fun _ _ => rfl)) (de_var (pv 4)) (fun _ _ => rfl)) de_int (fun _ _ => rfl)) sc.nd rfl (loc_b rfl)) (dss_cons (ds_set (de_lst (da_cons (de_ix (de_var (pv 3)) (de_op
    op_add ok_add (de_var (pv 8)) de_int) (fun _ _ => rfl)) (da_cons (de_ix (de_var (pv 3)) (de_op op_add ok_add (de_var (pv 8)) de_int) (fun _ _ => rfl)) (da_cons (de_ix (de_var (pv
    3)) (de_op op_add ok_add (de_var (pv 8)) de_int) (fun _ _ => rfl)) da_nil)))) sc.nd rfl (loc_b rfl)) (dss_cons (ds_if (dt_not (dt_val (de_callZ (ok_law_is z) hr rfl z.g__law_is tk
    (da_cons (DF.de (df_lc hc sc.nd (di_list (de_var (pv 10))) (own := [("tick", 11)]) (blkOk_by (by kernel_rfl)) (by decide) (fun s' H' C cl fp => (dg_name (pg_name sc.nd (i := 11)
    rfl (loc_b rfl)))) (fun s' H' C cl fp => dts_nil) (fun s' H' C cl fp => (de_callZ (ok_floor_of z) hr rfl z.g_floor_of takes0 (da_cons (de_var (pv 0)) (da_cons (de_var (pv 2))
    (da_cons (de_var (pv 3)) (da_cons (de_var (pv 9)) (da_cons (de_var (pv 11)) da_nil))))))))) (da_cons (de_op op_rep ok_rep (de_lst (da_cons (de_var (pv 7)) da_nil)) de_int)
    da_nil))))) (dss_one (ds_ret de_bl)) dss_nil) (dss_one (ds_if (dt_not (dt_val (de_callZ (ok_law_is z) hr rfl z.g__law_is tk (da_cons (de_callZ (ok_floor_of z) hr rfl z.g_floor_of
    tk (da_cons (de_var (pv 0)) (da_cons (de_var (pv 2)) (da_cons (de_var (pv 3)) (da_cons (de_var (pv 9)) (da_cons (de_ix (de_var (pv 3)) (de_var (pv 8)) (fun _ _ => rfl))
    da_nil)))))) (da_cons (de_var (pv 6)) da_nil))))) (dss_one (ds_ret de_bl)) dss_nil)))))) (dss_one (ds_ret de_bl)))
/-! _law_case_right: 0 hand, 1 house, 2 timetable, 3 moments, 4 built, 5 wrong, 6 answer, 7 tick, 8 at, 9 due -/
abbrev N_law_case_right : List Str := ["hand", "house", "timetable", "moments", "built", "wrong", "answer", "tick", "at", "due"]
def s_law_case_right_0 : DSt := (seqD (asgD (callH w_law_draw 0 (acD (callBD cLen (acD (opD dIx (vD 1) (cD (.int 4))) anD)) anD)) (gN 8)) (seqD (asgD (cD (.str "moments")) (gN 9))
  (seqD (ifS (notD (tD (vD 5))) (asgD (callD w_law_where (acD (vD 1) (acD (vD 2) (acD (vD 3) (acD (vD 8) (acD (vD 7) anD)))))) (gN 9)) nextD) (ifS (notD (tD (callD w_law_is (acD
  (lamD "BadMoments" "moments" (callD w_floor_of (acD (vD 4) (acD (vD 2) (acD (vD 3) (acD (opD dIx (opD dIx (opD dIx (vD 1) (cD (.int 4))) (vD 8)) (cD (.int 0))) (acD (vD 7)
  anD))))))) (acD (vD 9) anD))))) (retD (cD (.bl false))) nextD))))
def t_law_case_right : DSt := (seqD (asgD (tupD (acD (callD w_law_made_house (acD (vD 1) anD)) (acD (opD dNotN (callD w_law_ride_fault (acD (vD 1) (acD (vD 2) (acD (vD 3) anD))))
  (cD .non)) anD))) (gT 2 (gn1 (gN 4) (gn1 (gN 5) gn0)))) (seqD (asgD (callD w_fault (acD (vD 4) (acD (vD 2) (acD (tupD anD) (acD (vD 3) anD))))) (gN 6)) (seqD (ifS (tD (opD dNe
  (andV (opD dNotN (vD 6) (cD .non)) (opD (dIn false) (opD dIx (vD 6) (cD (.int 0))) (tupD (acD (cD (.str "ride")) (acD (cD (.str "doors")) anD))))) (vD 5))) (retD (cD (.bl false)))
  nextD) (seqD (forD (ilD (callH w_law_ticks 0 (acD (vD 3) anD))) (gN 7) s_law_case_right_0) (retD (orV (vD 5) (callD w_law_stands_right (acD (vD 4) (acD (vD 1) (acD (vD 2) (acD (vD
  3) anD)))))))))))
def w_law_case_right : WpH := wpHOf N_law_case_right 3 t_law_case_right
theorem e_law_case_right {hs : List D} (d0 d1 d2 : D) {Q : List D → Cell → Prop} : w_law_case_right hs [d0, d1, d2] Q = t_law_case_right ⟨fun δ => onOwn (fun hs' => Q hs' (.val .non)) δ[0]?, fun c δ => onOwn (fun hs' => Q hs' c) δ[0]?, fun _ => False, fun _ => False, fun _ _ _ => False⟩ [.own (.lst hs), .val d0, .val d1, .val d2, .emp, .emp, .emp, .emp, .emp, .emp] := propext ⟨fun h => h.2, fun h => ⟨rfl, h⟩⟩
theorem sc_law_case_right : FnScope N_law_case_right ["hand", "house", "timetable", "moments"] (defScope (top 99)) := ⟨rfl, rfl, rfl, by decide +kernel, rfl, by decide +kernel, by decide +kernel⟩
theorem ok_law_case_right (z : Zu K mg base) : DefOk P w K mg base 12 "_law_case_right" ["hand", "house", "timetable", "moments"] (spH K w_law_case_right) := by
  obtain ⟨fd, F'⟩ := z.d.def_ 56 (d := dfn "_law_case_right" 99) rfl
  have F : FnP K "_law_case_right" (top 99) fd := F'
  have sc := sc_law_case_right
  refine ⟨fd, defH_okC F sc t_law_case_right (fun cdv hcd A outer s H E g hr tk hp => ?_), F.kp, F.bindsN fun _ _ _ _ _ _ us hl => match us, hl with | [_, _, _, _], _ => rfl⟩
  have lo : LamOk (CtxB P w K mg base N_law_case_right "_law_case_right" (defScope (top 99)) (He.ga K "_law_case_right") cdv A outer s H E) ("_law_case_right", none) := lamOk_of (p := ("_law_case_right", none)) (by simp [lamDefs]) hcd z.lu z.tb
  have hc : (CtxB P w K mg base N_law_case_right "_law_case_right" (defScope (top 99)) (He.ga K "_law_case_right") cdv A outer s H E).calm = true := rfl
  exact (dss_cons (ds_asg (de_tup (da_cons (de_callZ (ok_law_made_house z) hr rfl z.g__law_made_house tk (da_cons (de_var (pv 1)) da_nil)) (da_cons (de_cmp op_notN ok_notN (de_callZ
    (ok_law_ride_fault z) hr rfl z.g__law_ride_fault tk (da_cons (de_var (pv 1)) (da_cons (de_var (pv 2)) (da_cons (de_var (pv 3)) da_nil)))) de_non (nomark _)) da_nil))) (dg_tup hc
    (dgs_cons (dg_name (pg_name sc.nd (i := 4) rfl (loc_b rfl))) (dgs_cons (dg_name (pg_name sc.nd (i := 5) rfl (loc_b rfl))) dgs_nil)))) (dss_cons (ds_set (de_callZ (ok_fault z) hr
    rfl z.g_fault tk (da_cons (de_var (pv 4)) (da_cons (de_var (pv 2)) (da_cons (de_tup da_nil) (da_cons (de_var (pv 3)) da_nil))))) sc.nd rfl (loc_b rfl)) (dss_cons (ds_if (dt_cmp
    op_ne ok_ne (de_and (de_cmp op_notN ok_notN (de_var (pv 6)) de_non (nomark _)) (de_one (de_cmp op_in_seq ok_in (de_ix (de_var (pv 6)) de_int (fun _ _ => rfl)) (de_tup (da_cons
    de_str (da_cons de_str da_nil))) (by rfl)))) (de_var (pv 5)) (nomark _)) (dss_one (ds_ret de_bl)) dss_nil) (dss_cons (ds_for hp hc (di_list (de_callHZ (ok_law_ticks z) hr rfl
    z.g__law_ticks tk (pv 0) (da_cons (de_var (pv 3)) da_nil))) (dg_name (pg_name sc.nd (i := 7) rfl (loc_b rfl))) (dss_cons (ds_set (de_callHZ (ok_law_draw z) hr rfl z.g__law_draw tk
    (pv 0) (da_cons (de_callB call_len ok_len rfl z.f_len b_len (da_cons (de_ix (de_var (pv 1)) de_int (fun _ _ => rfl)) da_nil)) da_nil)) sc.nd rfl (loc_b rfl)) (dss_cons (ds_set
    de_str sc.nd rfl (loc_b rfl)) (dss_cons (ds_if (dt_not (dt_val (de_var (pv 5)))) (dss_one (ds_set (de_callZ (ok_law_where z) hr rfl z.g__law_where tk (da_cons (de_var (pv 1))
    (da_cons (de_var (pv 2)) (da_cons (de_var (pv 3)) (da_cons (de_var (pv 8)) (da_cons (de_var (pv 7)) da_nil)))))) sc.nd rfl (loc_b rfl))) dss_nil) (dss_one (ds_if (dt_not (dt_val
    (de_callZ (ok_law_is z) hr rfl z.g__law_is tk (da_cons (de_wordZ z ⟨rfl, rfl, rfl⟩ hr lo rfl (LamX.lamS_by (by kernel_rfl)) rfl (fun _ _ _ _ _ => rfl) (fun A' outer' s' H' E' f'
    c' hr' tk' => (de_callZ (ok_floor_of z) hr' rfl z.g_floor_of tk' (da_cons (de_var (pv 4)) (da_cons (de_var (pv 2)) (da_cons (de_var (pv 3)) (da_cons (de_ix (de_ix (de_ix (de_var
    (pv 1)) de_int (fun _ _ => rfl)) (de_var (pv 8)) (fun _ _ => rfl)) de_int (fun _ _ => rfl)) (da_cons (de_var (pv 7)) da_nil)))))))) (da_cons (de_var (pv 9)) da_nil))))) (dss_one
    (ds_ret de_bl)) dss_nil)))))) (dss_one (ds_ret (de_or (de_var (pv 5)) (de_one (de_callZ (ok_law_stands_right z) hr rfl z.g__law_stands_right tk (da_cons (de_var (pv 4)) (da_cons
    (de_var (pv 1)) (da_cons (de_var (pv 2)) (da_cons (de_var (pv 3)) da_nil)))))))))))))
/-! law: 0 script, 1 hand, 2 turn, 3 house, 4 timetable, 5 moments, 6 again -/
abbrev N_law : List Str := ["script", "hand", "turn", "house", "timetable", "moments", "again"]
def s_law_0 : DSt := (seqD (ifS (notD (tD (callH w_law_case_right 1 (acD (vD 3) (acD (vD 4) (acD (vD 5) anD)))))) (retD (cD (.bl false))) nextD) (asgD (ifD (tD (opD dGt (callBD cLen
  (acD (vD 5) anD)) (cD (.int 1)))) (callH w_law_bent 1 (acD (vD 5) anD)) (vD 5)) (gN 5)))
def s_law_1 : DSt := (seqD (asgD (callH w_law_house 1 (acD (callH w_law_any 1 (acD (lstD (acD (cD (.int 1)) (acD (cD (.int 2)) (acD (cD (.int 4)) anD)))) anD)) anD)) (gN 3)) (seqD
  (asgD (callH w_law_timetable 1 (acD (vD 3) (acD (callH w_law_any 1 (acD (lstD (acD (cD (.int 2)) (acD (cD (.int 4)) (acD (cD (.int 8)) anD)))) anD)) anD))) (gN 4)) (seqD (asgD
  (callH w_law_moments 1 (acD (vD 3) (acD (vD 4) anD))) (gN 5)) (seqD (ifS (notD (tD (callD w_law_marks_right (acD (callD w_law_made_house (acD (vD 3) anD)) (acD (vD 3) (acD (vD 4)
  anD)))))) (retD (cD (.bl false))) nextD) (forD (irD (acD (cD (.int 3)) anD)) (gN 6) s_law_0)))))
def t_law : DSt := (seqD (ownD (callF w_law_hand (acD (vD 0) anD)) 1) (seqD (forD (irD (acD (cD (.int 5)) anD)) (gN 2) s_law_1) (retD (cD (.bl true)))))
def w_law : Wp := wpOf N_law 1 t_law
theorem e_law (d0 : D) {Q : Cell → Prop} {E : Str → List D → Prop} : w_law [d0] Q E = t_law ⟨fun _ => Q (.val .non), fun c _ => Q c, fun _ => False, fun _ => False, fun x xs _ => E x xs⟩ [.val d0, .emp, .emp, .emp, .emp, .emp, .emp] := propext ⟨fun h => h.2, fun h => ⟨rfl, h⟩⟩
theorem sc_law : FnScope N_law ["script"] (defScope (top 100)) := ⟨rfl, rfl, rfl, by decide +kernel, rfl, by decide +kernel, by decide +kernel⟩
theorem okF_law {fd : FuncData} (z : Zu K mg base) (F : FnP K "law" (top 100) fd) : FnOk P w K mg base (L2.CX P w) 13 (He.ga K "law") fd ["script"] (spP K w_law) := by
  have sc := sc_law
  refine def_ok F sc t_law (fun cdv A outer s H E g hr tk hp => ?_)
  have hc : (CtxB P w K mg base N_law "law" (defScope (top 100)) (He.ga K "law") cdv A outer s H E).calm = true := rfl
  exact (dss_cons (ds_own (df_callZ (ok_law_hand z) hr rfl z.g__law_hand tk (da_cons (de_var (pv 0)) da_nil)) sc.nd rfl (loc_b rfl)) (dss_cons (ds_for hp hc (di_range1 rfl z.f_range
    (da_cons de_int da_nil)) (dg_name (pg_name sc.nd (i := 2) rfl (loc_b rfl))) (dss_cons (ds_set (de_callHZ (ok_law_house z) hr rfl z.g__law_house tk (pv 1) (da_cons (de_callHZ
    (ok_law_any z) hr rfl z.g__law_any tk (pv 1) (da_cons (de_lst (da_cons de_int (da_cons de_int (da_cons de_int da_nil)))) da_nil)) da_nil)) sc.nd rfl (loc_b rfl)) (dss_cons (ds_set
    (de_callHZ (ok_law_timetable z) hr rfl z.g__law_timetable tk (pv 1) (da_cons (de_var (pv 3)) (da_cons (de_callHZ (ok_law_any z) hr rfl z.g__law_any tk (pv 1) (da_cons (de_lst
    (da_cons de_int (da_cons de_int (da_cons de_int da_nil)))) da_nil)) da_nil))) sc.nd rfl (loc_b rfl)) (dss_cons (ds_set (de_callHZ (ok_law_moments z) hr rfl z.g__law_moments tk (pv
    1) (da_cons (de_var (pv 3)) (da_cons (de_var (pv 4)) da_nil))) sc.nd rfl (loc_b rfl)) (dss_cons (ds_if (dt_not (dt_val (de_callZ (ok_law_marks_right z) hr rfl z.g__law_marks_right
    tk (da_cons (de_callZ (ok_law_made_house z) hr rfl z.g__law_made_house tk (da_cons (de_var (pv 3)) da_nil)) (da_cons (de_var (pv 3)) (da_cons (de_var (pv 4)) da_nil)))))) (dss_one
    (ds_ret de_bl)) dss_nil) (dss_one (ds_for hp hc (di_range1 rfl z.f_range (da_cons de_int da_nil)) (dg_name (pg_name sc.nd (i := 6) rfl (loc_b rfl))) (dss_cons (ds_if (dt_not
    (dt_val (de_callHZ (ok_law_case_right z) hr rfl z.g__law_case_right tk (pv 1) (da_cons (de_var (pv 3)) (da_cons (de_var (pv 4)) (da_cons (de_var (pv 5)) da_nil)))))) (dss_one
    (ds_ret de_bl)) dss_nil) (dss_one (ds_set (de_if (dt_cmp op_gt ok_gt (de_callB call_len ok_len rfl z.f_len b_len (da_cons (de_var (pv 5)) da_nil)) de_int (nomark _)) (de_callHZ
    (ok_law_bent z) hr rfl z.g__law_bent tk (pv 1) (da_cons (de_var (pv 5)) da_nil)) (de_var (pv 5))) sc.nd rfl (loc_b rfl))))))))))) (dss_one (ds_ret de_bl))))
abbrev law_fn : Nat := 57
abbrev law_top : Nat := 100
abbrev law_lv : Nat := 13
end
end Hd

set_option Elab.async false
set_option linter.all false
set_option maxRecDepth 100000
set_option maxHeartbeats 4000000
namespace Hd
open PySem PySem.Spec PyProof.Rows L2 Dn
theorem l_is_int {d : D} {Q : Cell → Prop} {E : Str → List D → Prop} (hf : flatT d = true) : w_is_int [d] Q E = Q (.val (.bl (isTy .int d && !isTy .bool d))) := by
  rw [e_is_int, t_is_int]
  simp [hf]
  cases isTy .int d <;> simp
@[simp] theorem l_is_intI {i : Int} {Q : Cell → Prop} {E : Str → List D → Prop} : w_is_int [.int i] Q E = Q (.val (.bl true)) := by
  rw [l_is_int rfl]; rfl
@[simp] theorem l_is_within {i a b : Int} {Q : Cell → Prop} {E : Str → List D → Prop} : w_is_within [.int i, .int a, .int b] Q E = Q (.val (.bl (decide (a ≤ i) && decide (i ≤ b)))) := by
  rw [e_is_within, t_is_within]
  simp
  by_cases h : a ≤ i <;> simp [h]
@[simp] theorem l_is_number {i a : Int} {Q : Cell → Prop} {E : Str → List D → Prop} : w_is_number [.int i, .int a] Q E = Q (.val (.bl (decide (0 ≤ i) && decide (i ≤ a)))) := by
  rw [e_is_number, t_is_number]
  simp
  by_cases h : 0 ≤ i <;> simp [h]
@[simp] theorem l_is_numberN {i : Int} {Q : Cell → Prop} {E : Str → List D → Prop} : w_is_number [.int i, .non] Q E = Q (.val (.bl (decide (0 ≤ i)))) := by
  rw [e_is_number, t_is_number]
  simp
  by_cases h : 0 ≤ i <;> simp [h]
end Hd

set_option Elab.async false
set_option linter.all false
set_option maxRecDepth 100000
set_option maxHeartbeats 4000000
namespace Hd
open PySem PySem.Spec PyProof.Rows L2 Dn
abbrev Cab := Str × Int × Int
abbrev names4 : List Str := ["ann", "bob", "z", "abcdefgh"]
abbrev cabD (c : Cab) : D := .tup [.str c.1, .int c.2.1, .int c.2.2]
/-- a house of the law's -/
structure Hs where
  fl : Int
  r0 : Int
  r1 : Int
  r2 : Int
  r3 : Int
  d0 : Int
  d1 : Int
  d2 : Int
  tu : Int
  cs : List Cab
abbrev Hs.ride (h : Hs) : D := .tup [.int h.r0, .int h.r1, .int h.r2, .int h.r3]
abbrev Hs.doors (h : Hs) : D := .tup [.int h.d0, .int h.d1, .int h.d2]
abbrev Hs.ds (h : Hs) : List D := [.int h.fl, h.ride, h.doors, .int h.tu, .tup (h.cs.map cabD)]
abbrev Hs.t (h : Hs) : D := .tup h.ds
abbrev Hs.o (h : Hs) : D := .obj "House" ["floors", "ride", "doors", "turn", "cabs"] h.ds
structure GoodCab (fl : Int) (c : Cab) : Prop where
  n : c.1 ∈ names4
  s0 : 0 ≤ c.2.1
  s1 : c.2.1 ≤ 9
  p0 : 0 ≤ c.2.2
  p1 : c.2.2 < fl
structure GoodH (h : Hs) : Prop where
  f0 : 2 ≤ h.fl
  f1 : h.fl ≤ 6
  r0 : 0 ≤ h.r0
  r1 : h.r0 ≤ h.r1
  r1b : h.r1 ≤ 4
  r2 : 1 ≤ h.r2
  r3 : h.r2 ≤ h.r3
  r3b : h.r3 ≤ 3
  d0 : 1 ≤ h.d0
  d1 : h.d0 ≤ h.d1
  d1b : h.d1 ≤ 5
  d2 : 0 ≤ h.d2
  d2b : h.d2 ≤ 3
  t0 : 0 ≤ h.tu
  t1 : h.tu ≤ 4
  c0 : h.cs ≠ []
  c1 : h.cs.length ≤ 4
  cg : ∀ c ∈ h.cs, GoodCab h.fl c
  cn : (h.cs.map (·.1)).Nodup
  cp : (h.cs.map (·.2)).Nodup
section
variable {Q : Cell → Prop} {E : Str → List D → Prop}
abbrev inLet (c : Nat) : Bool := !(Builtin.Str.occurrences ("abcdefghijklmnopqrstuvwxyz" : Str) ⟨#[c]⟩ 0 ("abcdefghijklmnopqrstuvwxyz" : Str).length 1).isEmpty
theorem name_few {x : Str} (h : x ∈ names4) : few x.length ∧ x.cps.toList.length = x.length ∧ 1 ≤ x.length ∧ x.length ≤ 8 ∧ (x.cps.toList.map inLet).all id = true := by
  have : ∀ x ∈ names4, x.cps.toList.length = x.length ∧ 1 ≤ x.length ∧ x.length ≤ 8 ∧ (x.cps.toList.map inLet).all id = true := by decide +kernel
  obtain ⟨a, b, c, d⟩ := this x h
  exact ⟨Nat.le_trans c (by decide), a, b, c, d⟩
theorem l_is_name {x : Str} (h : x ∈ names4) : w_is_name [.str x] Q E = Q (.val (.bl true)) := by
  obtain ⟨h1, h2, h3, h4, h5⟩ := name_few h
  rw [e_is_name, t_is_name]
  have e3 : (1 : Int) ≤ (x.length : Int) := by omega
  have e4 : (x.length : Int) ≤ 8 := by omega
  simp [h1, e3, e4]
  unfold strD
  rw [lcL_mapE (f := fun c => .bl (inLet c))]
  · simp only [List.nil_append, dBls_mapF, x_onSome]
    rw [h5]
  · simpa [h2] using h1
  · intro a ha R
    simp
theorem l_are_ticks3 {a b c : Int} : w_are_ticks [.tup [.int a, .int b, .int c], .int 3] Q E = Q (.val (.bl ((decide (0 ≤ a) && decide (a ≤ 1000)) && ((decide (0 ≤ b) && decide (b ≤ 1000)) && (decide (0 ≤ c) && decide (c ≤ 1000)))))) := by
  rw [e_are_ticks, t_are_ticks]
  simp [x_lcc, x_lcn]
theorem l_are_ticks4 {a b c d : Int} : w_are_ticks [.tup [.int a, .int b, .int c, .int d], .int 4] Q E = Q (.val (.bl ((decide (0 ≤ a) && decide (a ≤ 1000)) && ((decide (0 ≤ b) && decide (b ≤ 1000)) && ((decide (0 ≤ c) && decide (c ≤ 1000)) && (decide (0 ≤ d) && decide (d ≤ 1000))))))) := by
  rw [e_are_ticks, t_are_ticks]
  simp [x_lcc, x_lcn]
theorem l_is_ride {h : Hs} (g : GoodH h) : w_is_ride [h.ride] Q E = Q (.val (.bl true)) := by
  have a1 := g.r0; have a2 := g.r1; have a3 := g.r1b; have a4 := g.r2; have a5 := g.r3; have a6 := g.r3b
  rw [e_is_ride, t_is_ride]
  simp [l_are_ticks4]
  simp [show 0 ≤ h.r0 by omega, show h.r0 ≤ 1000 by omega, show 0 ≤ h.r1 by omega, show h.r1 ≤ 1000 by omega, show 0 ≤ h.r2 by omega, show h.r2 ≤ 1000 by omega, show 0 ≤ h.r3 by omega, show h.r3 ≤ 1000 by omega, a2, a4, a5]
theorem l_are_doors {h : Hs} (g : GoodH h) : w_are_doors [h.doors] Q E = Q (.val (.bl true)) := by
  have a1 := g.d0; have a2 := g.d1; have a3 := g.d1b; have a4 := g.d2; have a5 := g.d2b
  rw [e_are_doors, t_are_doors]
  simp [l_are_ticks3]
  simp [show 0 ≤ h.d0 by omega, show h.d0 ≤ 1000 by omega, show 0 ≤ h.d1 by omega, show h.d1 ≤ 1000 by omega, show 0 ≤ h.d2 by omega, show h.d2 ≤ 1000 by omega, a1, a2]
theorem l_is_cab {fl : Int} {c : Cab} (g : GoodCab fl c) : w_is_cab [.int fl, cabD c] Q E = Q (.val (.bl true)) := by
  rw [e_is_cab, t_is_cab]
  simp [l_is_name g.n]
  simp [g.s0, g.s1, g.p0, show c.2.2 ≤ fl - 1 from Int.le_sub_one_of_lt g.p1]
theorem cut_cab (c : Cab) : cutD [.str c.1, .int c.2.1, .int c.2.2] (some 1) none = [.int c.2.1, .int c.2.2] := rfl
/-- the state behind some cabs -/
abbrev stC (fl : Int) (cs : List Cab) (x : List Cab × Cell × Cell) : DEnv := [.val (.int fl), .val (.tup (cs.map cabD)), .own (.lst (x.1.map fun c => .str c.1)), .own (.lst (x.1.map fun c => pairD c.2)), x.2.1, x.2.2]
theorem l_check_cabs {h : Hs} (g : GoodH h) : w_check_cabs [.int h.fl, .tup (h.cs.map cabD)] Q E = Q (.val .non) := by
  rw [e_check_cabs, t_check_cabs]
  simp [g.c0]
  rw [enumD_map]
  refine iff_of_eq ((forL_eqI (st := stC h.fl h.cs) (x := ([], .emp, .emp)) (step := fun x a => (x.1 ++ [a.1], .val (.int (a.2 : Nat)), .val (cabD a.1))) (I := fun x l => ∃ r, h.cs = x.1 ++ r ∧ l = r.zipIdx x.1.length) _ ?_ ?_ _ ?_).trans rfl)
  · rintro x a l ⟨r, e1, e2⟩
    cases r with
    | nil => cases e2
    | cons b r =>
      rw [List.zipIdx_cons] at e2
      cases e2
      exact ⟨r, by simp [e1], by simp⟩
  · rintro x a l R ⟨r, e1, e2⟩
    cases r with
    | nil => cases e2
    | cons b r =>
      rw [List.zipIdx_cons] at e2
      cases e2
      have hl := g.c1
      have gb : GoodCab h.fl b := g.cg b (by rw [e1]; simp)
      have hn : b.1 ∉ x.1.map (·.1) := nodup_mid (r := r.map (·.1)) (by simpa [e1] using g.cn)
      have hp : b.2 ∉ x.1.map (·.2) := nodup_mid (r := r.map (·.2)) (by simpa [e1] using g.cp)
      have hx : x.1.length < 4 := by
        rw [e1] at hl
        simp at hl
        omega
      rw [s_check_cabs_0]
      have hf : few x.1.length := by unfold few; omega
      have hx' : (x.1.length : Int) < 4 := by omega
      simp at hn
      simp [l_is_cab gb, hp, hf, hx', stC]
      intro _
      exact fun n a c m e => hn a c (e ▸ m)
  · exact ⟨h.cs, by simp, by simp⟩
theorem l_init {h : Hs} (g : GoodH h) {R : List Str → List D → Prop} : w_init_House h.ds R = R ["floors", "ride", "doors", "turn", "cabs"] h.ds := by
  have a1 := g.f0; have a2 := g.f1; have a3 := g.t0; have a4 := g.t1
  have e : ∀ a : Addr, (t_init_House { nx := fun δ => δ[0]? = some (.val (.at a)) ∧ cellsAt δ rows_House (R (rows_House.map (·.1))), rt := fun _ _ => False, bk := fun _ => False, ct := fun _ => False, ex := fun _ _ _ => False } [.val (.at a), .val (.int h.fl), .val h.ride, .val h.doors, .val (.int h.tu), .val (.tup (h.cs.map cabD))]) = R ["floors", "ride", "doors", "turn", "cabs"] h.ds := fun a => by
    rw [t_init_House]
    simp [l_is_ride g, l_are_doors g, l_check_cabs g]
    simp [cellsAt, a1, show h.fl ≤ 30 by omega, a3, show h.tu ≤ 1000 by omega]
  refine propext ⟨fun z => ?_, fun z => ⟨rfl, fun a => ?_⟩⟩
  · have z2 := z.2 0
    exact (e 0) ▸ z2
  · exact (e a).symm ▸ z
theorem l_made {h : Hs} (g : GoodH h) : w_law_made_house [h.t] Q E = Q (.val h.o) := by
  rw [e_law_made_house, t_law_made_house]
  simp
  exact iff_of_eq (l_init g)
end
end Hd

set_option Elab.async false
set_option linter.all false
set_option maxRecDepth 100000
set_option maxHeartbeats 4000000
namespace Hd
open PySem PySem.Spec PyProof.Rows L2 Dn
abbrev rowD (r : List Int) : D := .tup (r.map D.int)
abbrev ttD (tt : List (List Int)) : D := .tup (tt.map rowD)
abbrev lens (tt : List (List Int)) : Nat := (tt.map List.length).sum
abbrev msD (ms : List Int) : D := .tup (ms.map D.int)
structure GoodRow (fl : Int) (p : Int) (r : List Int) : Prop where
  f : ∀ x ∈ r, 0 ≤ x ∧ x < fl
  c : ((p :: r).zip r).all (fun q => decide (q.1 ≠ q.2)) = true
structure GoodT (h : Hs) (tt : List (List Int)) : Prop where
  n : tt.length = h.cs.length
  r : ∀ q ∈ h.cs.zip tt, GoodRow h.fl q.1.2.2 q.2
  s : lens tt ≤ 8
section
variable {Q : Cell → Prop} {E : Str → List D → Prop} {P : D → Prop} {h : Hs} {tt : List (List Int)} {a b c d e : D} {ms : List Int}
@[simp ↓] theorem fld_fl : fldOf "House" "floors" P (.obj "House" ["floors", "ride", "doors", "turn", "cabs"] [a, b, c, d, e]) = P a := propext ⟨fun z => z.2, fun z => ⟨rfl, z⟩⟩
@[simp ↓] theorem fld_ri : fldOf "House" "ride" P (.obj "House" ["floors", "ride", "doors", "turn", "cabs"] [a, b, c, d, e]) = P b := propext ⟨fun z => z.2, fun z => ⟨rfl, z⟩⟩
@[simp ↓] theorem fld_do : fldOf "House" "doors" P (.obj "House" ["floors", "ride", "doors", "turn", "cabs"] [a, b, c, d, e]) = P c := propext ⟨fun z => z.2, fun z => ⟨rfl, z⟩⟩
@[simp ↓] theorem fld_tu : fldOf "House" "turn" P (.obj "House" ["floors", "ride", "doors", "turn", "cabs"] [a, b, c, d, e]) = P d := propext ⟨fun z => z.2, fun z => ⟨rfl, z⟩⟩
@[simp ↓] theorem fld_ca : fldOf "House" "cabs" P (.obj "House" ["floors", "ride", "doors", "turn", "cabs"] [a, b, c, d, e]) = P e := propext ⟨fun z => z.2, fun z => ⟨rfl, z⟩⟩
@[simp ↓] theorem x_objH {P : Prop} {ns : List Str} {ds : List D} : onObj "House" P (.obj "House" ns ds) = P := propext ⟨fun z => z.2, fun z => ⟨rfl, z⟩⟩
theorem l_check_house : w_check_house [h.o] Q E = Q (.val .non) := by
  rw [e_check_house, t_check_house]
  simp
theorem len_le_lens : ∀ {tt : List (List Int)} {r : List Int}, r ∈ tt → r.length ≤ lens tt
  | _ :: _, r, .head _ => by simp [lens]
  | r' :: tt, r, .tail _ m => by
    have := len_le_lens m
    simp [lens] at *
    omega
@[simp] theorem all_tt {α : Type} : ∀ l : List α, (l.all fun _ => true) = true
  | [] => rfl
  | _ :: l => all_tt l
theorem few_le {n : Nat} (h : n ≤ 1000000) : few n := h
theorem l_is_stops {cab : Cab} {r : List Int} (g : GoodRow h.fl cab.2.2 r) (hl : r.length ≤ 8) : w_is_stops [h.o, cabD cab, rowD r] Q E = Q (.val (.bl true)) := by
  rw [e_is_stops, t_is_stops]
  have h1 : few r.length := few_le (by omega)
  simp
  rw [lcL_mapE (f := fun _ => .bl true)]
  · simp [h1]
    have z2 : zipD (.int cab.2.2 :: r.map D.int) (r.map D.int) = (((cab.2.2 :: r).zip r)).map fun p => .tup [.int p.1, .int p.2] := zipD_map D.int D.int (cab.2.2 :: r) r
    rw [z2, lcL_mapE (f := fun p => .bl true)]
    · simp
    · simp
      exact few_le (by omega)
    · intro q ha R
      have := List.all_eq_true.mp g.c q ha
      simp at this
      simp [this]
  · simpa using h1
  · intro x hx R
    have := g.f x hx
    simp [this.1, show x ≤ h.fl - 1 by omega]
theorem few_tt (g : GoodT h tt) (gh : GoodH h) : few tt.length := few_le (by have := g.n; have := gh.c1; omega)
theorem sum_lens : ∀ tt : List (List Int), (tt.map fun a => (a.length : Int)).sum = (lens tt : Nat)
  | [] => rfl
  | r :: tt => by
    rw [List.map_cons, List.sum_cons, sum_lens tt]
    simp [lens]
theorem l_right_tt (gh : GoodH h) (g : GoodT h tt) : w_is_right_timetable [h.o, ttD tt] Q E = Q (.val (.bl true)) := by
  rw [e_is_right_timetable, t_is_right_timetable]
  have e1 : (tt.length : Int) = h.cs.length := by rw [g.n]
  simp [e1]
  rw [zipD_map, lcL_mapE (f := fun p => .bl true)]
  · simp only [List.nil_append, dBls_mapF, x_onSome, List.all_map]
    simp
    rw [lcL_mapE (f := fun r => .int (r.length : Nat))]
    · simp only [List.nil_append, dInts_mapF, x_onSome]
      have z : (tt.map fun a => (a.length : Int)).sum ≤ 8 := by
        rw [sum_lens]
        have := g.s
        omega
      simp [z]
    · simpa using few_tt g gh
    · intro a ha R
      simp
  · simp
    exact few_le (by have := g.n; have := gh.c1; omega)
  · intro q hq R
    have hr := g.r q hq
    have hl : q.2.length ≤ 8 := Nat.le_trans (len_le_lens (List.of_mem_zip hq).2) g.s
    simp [l_is_stops hr hl]
theorem l_is_tt (gh : GoodH h) (g : GoodT h tt) : w_is_timetable [h.o, ttD tt] Q E = Q (.val (.bl true)) := by
  rw [e_is_timetable, t_is_timetable]
  simp [l_check_house, l_right_tt gh g]
theorem l_check_tt (gh : GoodH h) (g : GoodT h tt) : w_check_timetable [h.o, ttD tt] Q E = Q (.val .non) := by
  rw [e_check_timetable, t_check_timetable]
  simp [l_is_tt gh g]
theorem l_right_riders : w_are_right_riders [h.o, ttD tt, .tup []] Q E = Q (.val (.bl true)) := by
  rw [e_are_right_riders, t_are_right_riders]
  simp [x_lcn, lsetD, allStr]
theorem l_is_riders (gh : GoodH h) (g : GoodT h tt) : w_is_riders [h.o, ttD tt, .tup []] Q E = Q (.val (.bl true)) := by
  rw [e_is_riders, t_is_riders]
  simp [l_check_tt gh g, l_right_riders]
theorem l_check_riders (gh : GoodH h) (g : GoodT h tt) : w_check_riders [h.o, ttD tt, .tup []] Q E = Q (.val .non) := by
  rw [e_check_riders, t_check_riders]
  simp [l_is_riders gh g]
theorem dIxS_of {z : Str} {P : D → Prop} {l : List Str} {i : Nat} (h : l[i]? = some z) (hm : ∀ m, m < i → l[m]? ≠ some z) : (∃ j : Nat, l[j]? = some z ∧ (∀ m, m < j → l[m]? ≠ some z) ∧ P (.int j)) = P (.int i) := by
  refine propext ⟨fun ⟨j, h1, h2, h3⟩ => ?_, fun p => ⟨i, h, hm, p⟩⟩
  have e : j = i := by
    rcases Nat.lt_trichotomy j i with q | q | q
    · exact absurd h1 (hm j q)
    · exact q
    · exact absurd h (h2 i q)
  rwa [e] at h3
theorem allStr_map {α : Type} (f : α → Str) : ∀ l : List α, allStr (l.map fun a => .str (f a)) = some (l.map f)
  | [] => rfl
  | a :: l => by
    show (allStr (l.map fun a => .str (f a))).map (f a :: ·) = _
    rw [allStr_map f l]
    rfl
theorem l_cab_number (gh : GoodH h) {i : Nat} {c : Cab} (hc : h.cs[i]? = some c) : w_cab_number [h.o, .str c.1] Q E = Q (.val (.int i)) := by
  rw [e_cab_number, t_cab_number]
  simp
  rw [lcL_mapE (f := fun c => .str c.1)]
  · simp
    have hm : c.1 ∈ h.cs.map (·.1) := List.mem_map.mpr ⟨c, List.mem_of_getElem? hc, rfl⟩
    have e1 : (h.cs.map (·.1))[i]? = some c.1 := by simp [hc]
    rw [any_strF, allStr_map, if_pos (by rw [decide_eq_true_eq]; exact hm)]
    refine iff_of_eq (dIxS_of (P := fun d => Q (.val d)) e1 fun m hmi => ?_)
    intro e2
    have hi := (List.getElem?_eq_some_iff.mp e1).1
    have := (List.getElem?_inj (by omega) gh.cn).mp (e2.trans e1.symm)
    omega
  · simp
    exact few_le (by have := gh.c1; omega)
  · intro a ha R
    simp
@[simp] theorem WORDS_len : c_WORDS.length = 4 := rfl
theorem bits_small {i : Int} (h : i.natAbs ≤ 1000000000) : bits i := Nat.lt_of_le_of_lt h (Nat.lt_of_lt_of_le (by decide : 1000000000 < 2 ^ 30) (Nat.pow_le_pow_right (by decide) (by decide)))
theorem mul_small {i j : Int} (h : i.natAbs ≤ 1000000000) (h' : j.natAbs ≤ 1000000000) : mulOk i j := ⟨bits_small h, bits_small h'⟩
@[simp] theorem cut_take {l : List D} {n : Nat} : Dn.cutD l none (some (n : Int)) = l.take n := by
  simp only [Dn.cutD, HT.sIx_none, HT.sIx_nat, List.drop_zero, Nat.sub_zero]
  rcases Nat.le_total n l.length with h | h
  · rw [Nat.min_eq_left h]
  · rw [Nat.min_eq_right h, List.take_of_length_le (Nat.le_refl _), List.take_of_length_le h]
theorem cut_drop {l : List D} {n : Nat} : Dn.cutD l (some (n : Int)) none = l.drop n := by
  simp only [Dn.cutD, HT.sIx_none, HT.sIx_nat]
  rcases Nat.le_total n l.length with h | h
  · rw [Nat.min_eq_left h, List.take_of_length_le (by rw [List.length_drop]; exact Nat.le_refl _)]
  · rw [Nat.min_eq_right h, List.drop_of_length_le (Nat.le_refl _), List.drop_of_length_le h]
    simp
theorem lens_take_le : ∀ (tt : List (List Int)) (n : Nat), lens (tt.take n) ≤ lens tt
  | [], n => by simp
  | r :: tt, 0 => by simp [lens]
  | r :: tt, n + 1 => by
    have := lens_take_le tt n
    simp [lens] at *
    omega
theorem l_mark_at {n : Nat} {s w : Int} (g : GoodT h tt) (gh : GoodH h) (hs : s.natAbs ≤ 1000) : w_mark_at [ttD tt, .int n, .int s, .int w] Q E = Q (.val (.int (1 + 4 * ((lens (tt.take n) : Nat) + s) + w))) := by
  have h1 := lens_take_le tt n
  have h2 := g.s
  rw [e_mark_at, t_mark_at]
  simp
  rw [← List.map_take, lcL_mapE (f := fun r => .int (r.length : Nat))]
  · simp only [List.nil_append, dInts_mapF, x_onSome]
    rw [sum_lens]
    simp [mul_small (show (4 : Int).natAbs ≤ 1000000000 by decide) (show ((lens (tt.take n) : Nat) + s).natAbs ≤ 1000000000 by omega)]
  · simp
    exact few_le (by have := g.n; have := gh.c1; omega)
  · intro a ha R
    simp
end
end Hd

set_option Elab.async false
set_option linter.all false
set_option maxRecDepth 100000
set_option maxHeartbeats 4000000
namespace Hd
open PySem PySem.Spec PyProof.Rows L2 Dn
/-- a ride: cab, stop, from, to, its mark of go -/
structure Ride where
  a : Nat
  i : Nat
  p : Int
  g : Int
  m : Int
def rr (a : Nat) : Nat → Int → Int → List Int → List Ride
  | _, _, _, [] => []
  | k, p, m, g :: r => ⟨a, k, p, g, m⟩ :: rr a (k + 1) g (m + 4) r
def ridesF : Nat → Int → List Cab → List (List Int) → List Ride
  | a, m, c :: cs, r :: tt => rr a 0 c.2.2 m r ++ ridesF (a + 1) (m + 4 * (r.length : Nat)) cs tt
  | _, _, _, _ => []
abbrev rd4 (q : Ride) : D := .tup [.int q.a, .int q.i, .int q.p, .int q.g]
abbrev rd5 (q : Ride) : D := .tup [.int q.a, .int q.i, .int q.p, .int q.g, .int q.m]
abbrev rds (h : Hs) (tt : List (List Int)) : List Ride := ridesF 0 1 h.cs tt
def mkA (tt : List (List Int)) (n : Nat) (s w : Int) : Int := 1 + 4 * ((lens (tt.take n) : Nat) + s) + w
/-- what a ride of the timetable is -/
structure RideOk (h : Hs) (tt : List (List Int)) (q : Ride) : Prop where
  a : ∃ c r, h.cs[q.a]? = some c ∧ tt[q.a]? = some r ∧ r[q.i]? = some q.g ∧ (q.i = 0 → q.p = c.2.2) ∧ (∀ j, q.i = j + 1 → r[j]? = some q.p)
  m : q.m = mkA tt q.a q.i 0
section
variable {Q : Cell → Prop} {E : Str → List D → Prop} {h : Hs} {tt : List (List Int)} {ms : List Int}
theorem rr_mem {a : Nat} : ∀ {r : List Int} {k : Nat} {p m : Int} {q : Ride}, q ∈ rr a k p m r → q.a = a ∧ k ≤ q.i ∧ r[q.i - k]? = some q.g ∧ q.m = m + 4 * ((q.i : Int) - k) ∧ (q.i = k → q.p = p) ∧ ∀ j, q.i = k + j + 1 → r[j]? = some q.p
  | [], k, p, m, q, h => by simp [rr] at h
  | g :: r, k, p, m, q, h => by
    simp only [rr, List.mem_cons] at h
    rcases h with rfl | h
    · refine ⟨rfl, Nat.le_refl _, by simp, by simp, fun _ => rfl, fun j hj => ?_⟩
      simp at hj
      omega
    · obtain ⟨h1, h2, h3, h4, h5, h6⟩ := rr_mem h
      refine ⟨h1, by omega, ?_, by omega, by omega, fun j hj => ?_⟩
      · rw [show q.i - k = (q.i - (k + 1)) + 1 by omega]
        simpa using h3
      · cases j with
        | zero =>
          have := h5 (by omega)
          simp [this]
        | succ j =>
          have := h6 j (by omega)
          simpa using this
theorem ridesF_mem : ∀ {cs : List Cab} {tt : List (List Int)} {a : Nat} {m : Int} {q : Ride}, q ∈ ridesF a m cs tt → a ≤ q.a ∧ ∃ c r, cs[q.a - a]? = some c ∧ tt[q.a - a]? = some r ∧ r[q.i]? = some q.g ∧ (q.i = 0 → q.p = c.2.2) ∧ (∀ j, q.i = j + 1 → r[j]? = some q.p) ∧ q.m = m + 4 * ((lens (tt.take (q.a - a)) : Nat) + q.i)
  | [], tt, a, m, q, h => by simp [ridesF] at h
  | c :: cs, [], a, m, q, h => by simp [ridesF] at h
  | c :: cs, r :: tt, a, m, q, h => by
    simp only [ridesF, List.mem_append] at h
    rcases h with h | h
    · obtain ⟨h1, h2, h3, h4, h5, h6⟩ := rr_mem h
      refine ⟨by omega, c, r, by simp [h1], by simp [h1], by simpa using h3, h5, fun j hj => h6 j (by omega), ?_⟩
      rw [h1, Nat.sub_self, List.take_zero]
      simp [lens]
      omega
    · obtain ⟨h1, c', r', h2, h3, h4, h5, h6, h7⟩ := ridesF_mem h
      refine ⟨by omega, c', r', ?_, ?_, h4, h5, h6, ?_⟩
      · rw [show q.a - a = (q.a - (a + 1)) + 1 by omega]
        simpa using h2
      · rw [show q.a - a = (q.a - (a + 1)) + 1 by omega]
        simpa using h3
      · rw [show q.a - a = (q.a - (a + 1)) + 1 by omega]
        simp [lens] at *
        omega
theorem rds_ok {q : Ride} (hq : q ∈ rds h tt) : RideOk h tt q := by
  obtain ⟨_, c, r, h2, h3, h4, h5, h6, h7⟩ := ridesF_mem hq
  exact ⟨⟨c, r, by simpa using h2, by simpa using h3, h4, h5, h6⟩, by simp at h7; unfold mkA; omega⟩
theorem lens_take_lt : ∀ {tt : List (List Int)} {a : Nat} {r : List Int} {i : Nat}, tt[a]? = some r → i < r.length → lens (tt.take a) + i < lens tt
  | [], a, r, i, h, hi => by simp at h
  | r' :: tt, 0, r, i, h, hi => by
    simp at h
    subst h
    simp [lens]
    omega
  | r' :: tt, a + 1, r, i, h, hi => by
    have := lens_take_lt (tt := tt) (a := a) (by simpa using h) hi
    simp [lens] at *
    omega
/-- bounds of a ride's numbers -/
theorem RideOk.bd {q : Ride} (o : RideOk h tt q) (gh : GoodH h) (g : GoodT h tt) : 1 ≤ q.m ∧ q.m + 3 < 1 + 4 * (lens tt : Nat) ∧ q.a < h.cs.length ∧ q.i < 8 ∧ (0 < q.i → 5 ≤ q.m) := by
  obtain ⟨⟨c, r, h1, h2, h3, h4, h5⟩, hm⟩ := o
  have hi : q.i < r.length := (List.getElem?_eq_some_iff.mp h3).1
  have z := lens_take_lt h2 hi
  have hs := g.s
  unfold mkA at hm
  refine ⟨by omega, by omega, (List.getElem?_eq_some_iff.mp h1).1, by omega, fun p => by omega⟩
abbrev absI (i : Int) : Int := if i < 0 then -i else i
theorem l_ride_lengths (gh : GoodH h) {a b : Int} (h1 : (a - b).natAbs ≤ 1000) : w_ride_lengths [h.o, .int a, .int b] Q E = Q (.val (.tup [.int (h.r0 + absI (a - b) * h.r2), .int (h.r1 + absI (a - b) * h.r3)])) := by
  have a1 := gh.r0; have a2 := gh.r1; have a3 := gh.r1b; have a4 := gh.r2; have a5 := gh.r3; have a6 := gh.r3b
  have z : (absI (a - b)).natAbs ≤ 1000000000 := by unfold absI; split <;> omega
  have z2 := mul_small z (show h.r2.natAbs ≤ 1000000000 by omega)
  have z3 := mul_small z (show h.r3.natAbs ≤ 1000000000 by omega)
  rw [e_ride_lengths, t_ride_lengths]
  simp [z2, z3]
theorem l_law_length (gh : GoodH h) {a b : Int} (h1 : (a - b).natAbs ≤ 1000) : w_law_length [h.t, .int a, .int b] Q E = Q (.val (.tup [.int (h.r0 + absI (a - b) * h.r2), .int (h.r1 + absI (a - b) * h.r3)])) := by
  have a1 := gh.r0; have a2 := gh.r1; have a3 := gh.r1b; have a4 := gh.r2; have a5 := gh.r3; have a6 := gh.r3b
  have z : (absI (a - b)).natAbs ≤ 1000000000 := by unfold absI; split <;> omega
  have z2 := mul_small z (show h.r2.natAbs ≤ 1000000000 by omega)
  have z3 := mul_small z (show h.r3.natAbs ≤ 1000000000 by omega)
  rw [e_law_length, t_law_length]
  simp [z2, z3]
structure GoodM (tt : List (List Int)) (ms : List Int) : Prop where
  n : ms.length = 1 + 4 * lens tt
  p : ∀ m ∈ ms, 0 ≤ m
  z : ms[0]? = some 0
theorem l_check_all_moments (gh : GoodH h) (g : GoodT h tt) (gm : GoodM tt ms) : w_check_all_moments [ttD tt, msD ms] Q E = Q (.val .non) := by
  have hs := g.s
  have hn := gm.n
  rw [e_check_all_moments, t_check_all_moments]
  simp
  rw [lcL_mapE (f := fun r => .int (r.length : Nat))]
  · simp only [List.nil_append, dInts_mapF, x_onSome]
    rw [sum_lens]
    have e1 : (ms.length : Int) = 1 + 4 * (lens tt : Nat) := by omega
    simp [mul_small (show (4 : Int).natAbs ≤ 1000000000 by decide) (show ((lens tt : Nat) : Int).natAbs ≤ 1000000000 by omega), e1]
    rw [lcL_mapE (f := fun _ => .bl true)]
    · have e2 : atI (ms.map D.int) 0 = some (.int 0) := atI_of (by omega) (by simp [gm.z])
      simp [e2]
    · simp
      exact few_le (by omega)
    · intro m hm R
      simp [gm.p m hm]
  · simp
    exact few_le (by have := g.n; have := gh.c1; omega)
  · intro a ha R
    simp
/- stops_of -/
abbrev stS (h : Hs) (tt : List (List Int)) (x : List Ride × Cell × Cell × Cell × Cell × Cell) : DEnv := [.val h.o, .val (ttD tt), .own (.lst (x.1.map rd4)), x.2.1, x.2.2.1, x.2.2.2.1, x.2.2.2.2.1, x.2.2.2.2.2]
theorem stops_in {a : Nat} {c : Cab} {row : List Int} {m : Int} (hr : row.length ≤ 8) (x : List Ride × Cell × Cell) (hx : x.1.length ≤ 1000) :
    ∃ x' : List Ride × Cell × Cell, x'.1 = x.1 ++ rr a 0 c.2.2 m row ∧ ∀ (nx bk ct : DEnv → Prop) (rt : Cell → DEnv → Prop) (ex : XD), forL (gT 2 (gn1 (gN 6) (gn1 (gN 7) gn0))) s_stops_of_0 ⟨nx, rt, bk, ct, ex⟩ (enumD (row.map D.int)) (stS h tt (x.1, .val (.int a), .val (cabD c), .val (rowD row), x.2.1, x.2.2)) = nx (stS h tt (x'.1, .val (.int a), .val (cabD c), .val (rowD row), x'.2.1, x'.2.2)) := by
  rw [enumD_map]
  refine (forL_ex (gt := gT 2 (gn1 (gN 6) (gn1 (gN 7) gn0))) (s := s_stops_of_0)
    (fun p : Int × Nat => .tup [.int (p.2 : Nat), D.int p.1]) (st := fun x : List Ride × Cell × Cell => stS h tt (x.1, .val (.int a), .val (cabD c), .val (rowD row), x.2.1, x.2.2))
    (I := fun l y => ∃ pre rest p m', row = pre ++ rest ∧ l = rest.zipIdx pre.length ∧ y.1.length ≤ 1000 + pre.length ∧ (pre = [] → p = c.2.2) ∧ (∀ j, pre.length = j + 1 → row[j]? = some p) ∧ y.1 ++ rr a pre.length p m' rest = x.1 ++ rr a 0 c.2.2 m row) ?_ row.zipIdx x ⟨[], row, c.2.2, m, rfl, by simp, by simpa using hx, fun _ => rfl, by simp, rfl⟩).elim ?_
  · rintro ⟨g, k⟩ l y ⟨pre, rest, p, m', e1, e2, e3, e4, e5, e6⟩
    cases rest with
    | nil => simp at e2
    | cons b r =>
      rw [List.zipIdx_cons] at e2
      simp only [List.cons.injEq, Prod.mk.injEq] at e2
      obtain ⟨⟨rfl, rfl⟩, rfl⟩ := e2
      have hl : pre.length ≤ 8 := by rw [e1] at hr; simp at hr; omega
      refine ⟨(y.1 ++ [⟨a, pre.length, p, g, m'⟩], .val (.int (pre.length : Nat)), .val (.int g)), ⟨pre ++ [g], r, g, m' + 4, by simp [e1], by simp, by simp; omega, by simp, fun j hj => ?_, ?_⟩, fun R N rt ex => ?_⟩
      · simp at hj
        subst hj
        rw [e1]
        simp
      · rw [← e6]
        simp [rr]
      · have hf : few y.1.length := few_le (by omega)
        rw [s_stops_of_0]
        by_cases h0 : pre.length = 0
        · have hp : pre = [] := List.length_eq_zero_iff.mp h0
          have e4 := e4 hp
          subst hp
          simp [hf, e4, stS, rd4]
        · obtain ⟨j, hj⟩ : ∃ j, pre.length = j + 1 := ⟨pre.length - 1, by omega⟩
          have e7 := e5 j hj
          have e8 : atI (row.map D.int) ((pre.length : Int) - 1) = some (.int p) := by
            rw [show ((pre.length : Int) - 1) = (j : Int) by omega, Dn.atI_nat]
            simp [e7]
          simp [hf, e8, show 0 < pre.length by omega, stS, rd4]
  · rintro x' ⟨⟨pre, rest, p, m', e1, e2, e3, e4, e5, e6⟩, h2⟩
    cases rest with
    | nil => exact ⟨x', by simpa [rr] using e6, h2⟩
    | cons b r => simp at e2
theorem rr_len {a : Nat} : ∀ {r : List Int} {k : Nat} {p m : Int}, (rr a k p m r).length = r.length
  | [], k, p, m => rfl
  | g :: r, k, p, m => by simp [rr, rr_len (r := r)]
theorem ridesF_len : ∀ {cs : List Cab} {tt : List (List Int)} {a : Nat} {m : Int}, (ridesF a m cs tt).length ≤ lens tt
  | [], tt, a, m => by simp [ridesF]
  | c :: cs, [], a, m => by simp [ridesF]
  | c :: cs, r :: tt, a, m => by
    have := ridesF_len (cs := cs) (tt := tt) (a := a + 1) (m := m + 4 * (r.length : Nat))
    simp [ridesF, lens, rr_len] at *
    omega
theorem l_stops_of (gh : GoodH h) (g : GoodT h tt) : w_stops_of [h.o, ttD tt] Q E = Q (.val (.lst ((rds h tt).map rd4))) := by
  rw [e_stops_of, t_stops_of]
  simp
  rw [zipD_map, enumD_map]
  refine iff_of_eq ?_
  refine forL_val _ _ (stS h tt) (fun l y => ∃ (a : Nat) (m : Int) (cs : List Cab) (ts : List (List Int)), l = (cs.zip ts).zipIdx a ∧ (∀ r ∈ ts, r.length ≤ 8) ∧ y.1.length + lens ts ≤ 8 ∧ y.1 ++ ridesF a m cs ts = rds h tt) ?_ ?_ _ ([], .emp, .emp, .emp, .emp, .emp) ?_
  · rintro x' ⟨a, m, cs, ts, e1, e2, e3, e4⟩
    have e5 : ridesF a m cs ts = [] := by
      cases cs with
      | nil => rfl
      | cons c cs =>
        cases ts with
        | nil => rfl
        | cons r ts => simp at e1
    rw [e5, List.append_nil] at e4
    simp [stS, e4]
  · rintro ⟨⟨c, r⟩, k⟩ l y ⟨a, m, cs, ts, e1, e2, e3, e4⟩
    cases cs with
    | nil => simp at e1
    | cons c' cs =>
      cases ts with
      | nil => simp at e1
      | cons r' ts =>
        simp at e1
        obtain ⟨⟨⟨rfl, rfl⟩, rfl⟩, rfl⟩ := e1
        have hr := e2 r (by simp)
        refine .inl ?_
        obtain ⟨x', h1, h2⟩ := stops_in (h := h) (tt := tt) (row := r) (c := c) (a := k) (m := m) hr (y.1, y.2.2.2.2.1, y.2.2.2.2.2) (by simp; omega)
        refine ⟨(x'.1, .val (.int k), .val (cabD c), .val (rowD r), x'.2.1, x'.2.2), ⟨k + 1, m + 4 * (r.length : Nat), cs, ts, rfl, fun r hr => e2 r (by simp [hr]), ?_, ?_⟩, fun R => ?_⟩
        · simp [h1, rr_len]
          simp [lens] at e3 ⊢
          omega
        · rw [← e4, h1]
          simp [ridesF]
        · rw [s_stops_of_1]
          simp
          exact iff_of_eq (h2 R _ _ _ _)
  · exact ⟨0, 1, h.cs, tt, rfl, fun r hr => Nat.le_trans (len_le_lens hr) g.s, by simpa using g.s, rfl⟩
end
end Hd

set_option Elab.async false
set_option linter.all false
set_option maxRecDepth 100000
set_option maxHeartbeats 4000000
namespace Hd
open PySem PySem.Spec PyProof.Rows L2 Dn
def gm (ms : List Int) (k : Int) : Int := ms.getD k.toNat 0
abbrev loL (h : Hs) (q : Ride) : Int := h.r0 + absI (q.p - q.g) * h.r2
abbrev hiL (h : Hs) (q : Ride) : Int := h.r1 + absI (q.p - q.g) * h.r3
/-- what is at fault at a ride -/
def fw (h : Hs) (ms : List Int) (q : Ride) : Option Str :=
  if ¬ (loL h q ≤ gm ms (q.m + 1) - gm ms q.m ∧ gm ms (q.m + 1) - gm ms q.m ≤ hiL h q) then some "ride"
  else if 0 < q.i ∧ gm ms q.m < gm ms (q.m - 1) then some "ride"
  else if gm ms (q.m + 2) < gm ms (q.m + 1) ∨ ¬ (h.d0 ≤ gm ms (q.m + 3) - gm ms (q.m + 2) ∧ gm ms (q.m + 3) - gm ms (q.m + 2) ≤ h.d1) then some "doors"
  else none
abbrev optS : Option Str → D
  | some x => .str x
  | none => .non
section
variable {Q : Cell → Prop} {E : Str → List D → Prop} {h : Hs} {tt : List (List Int)} {ms : List Int} {q : Ride}
theorem RideOk.fl (o : RideOk h tt q) (gh : GoodH h) (g : GoodT h tt) : 0 ≤ q.p ∧ q.p < h.fl ∧ 0 ≤ q.g ∧ q.g < h.fl ∧ q.p ≠ q.g := by
  obtain ⟨⟨c, r, h1, h2, h3, h4, h5⟩, hm⟩ := o
  have hz : (c, r) ∈ h.cs.zip tt := List.mem_of_getElem? (i := q.a) (by rw [List.getElem?_zip_eq_some]; exact ⟨h1, h2⟩)
  have gr := g.r _ hz
  have gc := gh.cg c (List.mem_of_getElem? h1)
  have fg := gr.f q.g (List.mem_of_getElem? h3)
  have fp : (0 ≤ q.p ∧ q.p < h.fl) ∧ (c.2.2 :: r)[q.i]? = some q.p := by
    cases hi : q.i with
    | zero =>
      rw [h4 hi]
      exact ⟨⟨gc.p0, gc.p1⟩, rfl⟩
    | succ j =>
      have := h5 j hi
      exact ⟨gr.f q.p (List.mem_of_getElem? this), by simpa using this⟩
  have hc := List.all_eq_true.mp gr.c (q.p, q.g) (List.mem_of_getElem? (i := q.i) (by rw [List.getElem?_zip_eq_some]; exact ⟨fp.2, h3⟩))
  exact ⟨fp.1.1, fp.1.2, fg.1, fg.2, by simpa using hc⟩
/-- moments at a ride's marks -/
structure MAt (ms : List Int) (q : Ride) : Prop where
  e0 : atI (ms.map D.int) q.m = some (.int (gm ms q.m))
  e1 : atI (ms.map D.int) (q.m + 1) = some (.int (gm ms (q.m + 1)))
  e2 : atI (ms.map D.int) (q.m + 2) = some (.int (gm ms (q.m + 2)))
  e3 : atI (ms.map D.int) (q.m + 3) = some (.int (gm ms (q.m + 3)))
  e4 : atI (ms.map D.int) (q.m - 1) = some (.int (gm ms (q.m - 1)))
theorem RideOk.at_ (o : RideOk h tt q) (gh : GoodH h) (g : GoodT h tt) (hn : ms.length = 1 + 4 * lens tt) : MAt ms q := by
  obtain ⟨b1, b2, _⟩ := o.bd gh g
  exact ⟨atI_intF (by omega) (by omega), atI_intF (by omega) (by omega), atI_intF (by omega) (by omega), atI_intF (by omega) (by omega), atI_intF (by omega) (by omega)⟩
theorem RideOk.mark (o : RideOk h tt q) (gh : GoodH h) (g : GoodT h tt) (w : Int) (Q : Cell → Prop) (E : Str → List D → Prop) : w_mark_at [ttD tt, .int q.a, .int q.i, .int w] Q E = Q (.val (.int (q.m + w))) := by
  have b := o.bd gh g
  rw [l_mark_at g gh (by omega), show 1 + 4 * (((lens (tt.take q.a) : Nat) : Int) + q.i) + w = q.m + w by rw [o.m]; unfold mkA; omega]
theorem RideOk.markP (o : RideOk h tt q) (gh : GoodH h) (g : GoodT h tt) (Q : Cell → Prop) (E : Str → List D → Prop) : w_mark_at [ttD tt, .int q.a, .int (q.i - 1), .int 3] Q E = Q (.val (.int (q.m - 1))) := by
  have b := o.bd gh g
  rw [l_mark_at g gh (by omega), show 1 + 4 * (((lens (tt.take q.a) : Nat) : Int) + ((q.i : Int) - 1)) + 3 = q.m - 1 by rw [o.m]; unfold mkA; omega]
theorem l_stop_fault (gh : GoodH h) (g : GoodT h tt) (o : RideOk h tt q) (hn : ms.length = 1 + 4 * lens tt) : w_stop_fault [h.o, ttD tt, msD ms, rd4 q] Q E = Q (.val (optS (fw h ms q))) := by
  have hf := o.fl gh g
  have f0 := gh.f0; have f1 := gh.f1
  have m := o.at_ (ms := ms) gh g hn
  have b := o.bd gh g
  have k0 := o.mark gh g 0; have k1 := o.mark gh g 1; have k2 := o.mark gh g 2; have k3 := o.mark gh g 3; have k4 := o.markP gh g
  simp only [Int.add_zero] at k0
  rw [e_stop_fault, t_stop_fault]
  simp [x_lcc, x_lcn, k0, k1, k2, k3, k4, m.e0, m.e1, m.e2, m.e3, l_ride_lengths gh (show (q.p - q.g).natAbs ≤ 1000 by omega)]
  simp [m.e4]
  unfold fw
  by_cases c1 : h.r0 + absI (q.p - q.g) * h.r2 ≤ gm ms (q.m + 1) - gm ms q.m <;> by_cases c2 : gm ms (q.m + 1) - gm ms q.m ≤ h.r1 + absI (q.p - q.g) * h.r3 <;> by_cases c3 : 0 < q.i <;> by_cases c4 : gm ms q.m < gm ms (q.m - 1) <;> by_cases c5 : gm ms (q.m + 2) < gm ms (q.m + 1) <;>
    by_cases c6 : h.d0 ≤ gm ms (q.m + 3) - gm ms (q.m + 2) <;> by_cases c7 : gm ms (q.m + 3) - gm ms (q.m + 2) ≤ h.d1 <;> simp [loL, hiL, c1, c2, c3, c4, c5, c6, c7, optS]
/-- the first fault -/
def ff (h : Hs) (ms : List Int) (q : Ride) : Option D := (fw h ms q).map fun x => .tup [.str x, .str ((h.cs.map (·.1)).getD q.a ("" : Str)), .int q.i]
def cf (h : Hs) (tt : List (List Int)) (ms : List Int) : Option D := (rds h tt).findSome? (ff h ms)
abbrev optD : Option D → D
  | some d => d
  | none => .non
theorem cab_at (o : RideOk h tt q) : ∃ c, h.cs[q.a]? = some c ∧ atI (h.cs.map cabD) q.a = some (cabD c) ∧ (h.cs.map (·.1)).getD q.a ("" : Str) = c.1 := by
  obtain ⟨⟨c, r, h1, h2, h3, h4, h5⟩, hm⟩ := o
  refine ⟨c, h1, ?_, ?_⟩
  · rw [Dn.atI_nat, List.getElem?_map, h1]
    rfl
  · rw [List.getD_eq_getElem?_getD, List.getElem?_map, h1]
    rfl
theorem l_cab_fault (gh : GoodH h) (g : GoodT h tt) (hn : ms.length = 1 + 4 * lens tt) : w_cab_fault [h.o, ttD tt, msD ms] Q E = Q (.val (optD (cf h tt ms))) := by
  rw [e_cab_fault, t_cab_fault]
  simp [l_stops_of gh g]
  refine iff_of_eq ?_
  refine forL_val _ _ (fun x : Cell × Cell => [.val h.o, .val (ttD tt), .val (msD ms), x.1, x.2]) (fun l y => (∀ q ∈ l, RideOk h tt q) ∧ l.findSome? (ff h ms) = cf h tt ms) ?_ ?_ _ (.emp, .emp) ⟨fun q hq => rds_ok hq, rfl⟩
  · rintro x ⟨_, e⟩
    simp [← e]
  · rintro q l x ⟨ho, e⟩
    have o := ho q (by simp)
    obtain ⟨c, h1, h2, h3⟩ := cab_at o
    rw [s_cab_fault_0]
    cases hw : fw h ms q with
    | none =>
      refine .inl ⟨(.val (rd4 q), .val .non), ⟨fun q hq => ho q (by simp [hq]), ?_⟩, fun R => ?_⟩
      · rw [← e]
        simp [ff, hw]
      · simp [l_stop_fault gh g o hn, hw]
    | some w =>
      refine .inr fun R => ?_
      have e2 : cf h tt ms = some (.tup [.str w, .str c.1, .int q.i]) := by
        rw [← e]
        simp only [List.findSome?_cons, ff, hw, h3, Option.map_some]
      simp [l_stop_fault gh g o hn, hw, e2, h2]
/- the law's rides -/
abbrev stR (h : Hs) (tt : List (List Int)) (x : List Ride × Int × Cell × Cell × Cell × Cell × Cell) : DEnv := [.val h.t, .val (ttD tt), .own (.lst (x.1.map rd5)), .val (.int x.2.1), x.2.2.1, x.2.2.2.1, x.2.2.2.2.1, x.2.2.2.2.2.1, x.2.2.2.2.2.2]
theorem rides_in {a : Nat} {c7 : Cell} {row : List Int} {p m : Int} (hr : row.length ≤ 8) (x : List Ride × Cell × Cell) (hx : x.1.length ≤ 1000) :
    ∃ x' : List Ride × Int × Int × Cell × Cell, x'.1 = x.1 ++ rr a 0 p m row ∧ x'.2.1 = m + 4 * (row.length : Nat) ∧ ∀ (nx bk ct : DEnv → Prop) (rt : Cell → DEnv → Prop) (ex : XD), forL (gT 2 (gn1 (gN 7) (gn1 (gN 8) gn0))) s_law_rides_0 ⟨nx, rt, bk, ct, ex⟩ (enumD (row.map D.int)) (stR h tt (x.1, m, .val (.int a), .val (rowD row), .val (.int p), x.2.1, x.2.2)) = nx (stR h tt (x'.1, x'.2.1, .val (.int a), .val (rowD row), .val (.int x'.2.2.1), x'.2.2.2.1, x'.2.2.2.2)) := by
  rw [enumD_map]
  refine (forL_ex (gt := gT 2 (gn1 (gN 7) (gn1 (gN 8) gn0))) (s := s_law_rides_0)
    (fun p : Int × Nat => .tup [.int (p.2 : Nat), D.int p.1]) (st := fun x : List Ride × Int × Int × Cell × Cell => stR h tt (x.1, x.2.1, .val (.int a), .val (rowD row), .val (.int x.2.2.1), x.2.2.2.1, x.2.2.2.2))
    (I := fun l y => ∃ k rest, l = rest.zipIdx k ∧ y.1.length + rest.length ≤ 1008 ∧ y.1 ++ rr a k y.2.2.1 y.2.1 rest = x.1 ++ rr a 0 p m row ∧ y.2.1 + 4 * (rest.length : Nat) = m + 4 * (row.length : Nat))
    ?_ row.zipIdx (x.1, m, p, x.2.1, x.2.2) ⟨0, row, rfl, by simp; omega, rfl, rfl⟩).elim ?_
  · rintro ⟨g, k⟩ l y ⟨k', rest, e1, e2, e3, e4⟩
    cases rest with
    | nil => simp at e1
    | cons b r =>
      simp at e1
      obtain ⟨⟨rfl, rfl⟩, rfl⟩ := e1
      refine ⟨(y.1 ++ [⟨a, k, y.2.2.1, g, y.2.1⟩], y.2.1 + 4, g, .val (.int k), .val (.int g)), ⟨k + 1, r, rfl, by simp at e2 ⊢; omega, ?_, ?_⟩, fun R N rt ex => ?_⟩
      · rw [← e3]
        simp [rr]
      · simp at e4 ⊢
        omega
      · have hf : few y.1.length := few_le (by omega)
        rw [s_law_rides_0]
        simp [hf, stR, rd5]
  · rintro x' ⟨⟨k, rest, e1, e2, e3, e4⟩, h2⟩
    cases rest with
    | nil => exact ⟨x', by simpa [rr] using e3, by simpa using e4, h2⟩
    | cons b r => simp at e1
theorem l_law_rides (gh : GoodH h) (g : GoodT h tt) : w_law_rides [h.t, ttD tt] Q E = Q (.val (.lst ((rds h tt).map rd5))) := by
  rw [e_law_rides, t_law_rides]
  simp
  rw [enumD_map]
  refine iff_of_eq ?_
  refine forL_val _ _ (stR h tt) (fun l y => ∃ (a : Nat) (pre cs : List Cab) (ts : List (List Int)), h.cs = pre ++ cs ∧ a = pre.length ∧ cs.length = ts.length ∧ l = ts.zipIdx a ∧ (∀ r ∈ ts, r.length ≤ 8) ∧ y.1.length + lens ts ≤ 8 ∧ y.1 ++ ridesF a y.2.1 cs ts = rds h tt) ?_ ?_ _ ([], 1, .emp, .emp, .emp, .emp, .emp) ?_
  · rintro x' ⟨a, pre, cs, ts, ec, ea, el, e1, e2, e3, e4⟩
    have e5 : ridesF a x'.2.1 cs ts = [] := by
      cases cs with
      | nil => rfl
      | cons c cs =>
        cases ts with
        | nil => rfl
        | cons r ts => simp at e1
    rw [e5, List.append_nil] at e4
    simp [stR, e4]
  · rintro ⟨r, k⟩ l y ⟨a, pre, cs, ts, ec, ea, el, e1, e2, e3, e4⟩
    cases ts with
    | nil => simp at e1
    | cons r' ts =>
      cases cs with
      | nil => simp at el
      | cons c cs =>
        simp at e1
        obtain ⟨⟨rfl, rfl⟩, rfl⟩ := e1
        have hr := e2 r (by simp)
        refine .inl ?_
        obtain ⟨x', h1, h3, h2⟩ := rides_in (h := h) (tt := tt) (row := r) (p := c.2.2) (c7 := y.2.2.2.2.1) (a := k) (m := y.2.1) hr (y.1, y.2.2.2.2.2.1, y.2.2.2.2.2.2) (by simp; omega)
        have hc : atI (h.cs.map cabD) k = some (cabD c) := by
          rw [Dn.atI_nat, List.getElem?_map, ec, ea]
          simp
        refine ⟨(x'.1, x'.2.1, .val (.int k), .val (rowD r), .val (.int x'.2.2.1), x'.2.2.2.1, x'.2.2.2.2), ⟨k + 1, pre ++ [c], cs, ts, by simp [ec], by simp [ea], by simpa using el, rfl, fun r hr => e2 r (by simp [hr]), ?_, ?_⟩, fun R => ?_⟩
        · simp [h1, rr_len]
          simp [lens] at e3 ⊢
          omega
        · rw [← e4, h1, h3]
          simp [ridesF]
        · rw [s_law_rides_1]
          simp [hc]
          exact iff_of_eq (h2 R _ _ _ _)
  · exact ⟨0, [], h.cs, tt, rfl, rfl, g.n.symm, rfl, fun r hr => Nat.le_trans (len_le_lens hr) g.s, by simpa using g.s, rfl⟩
theorem l_law_ride_fault (gh : GoodH h) (g : GoodT h tt) (hn : ms.length = 1 + 4 * lens tt) : w_law_ride_fault [h.t, ttD tt, msD ms] Q E = Q (.val (optD (cf h tt ms))) := by
  rw [e_law_ride_fault, t_law_ride_fault]
  simp [l_law_rides gh g]
  refine iff_of_eq ?_
  refine forL_val _ _ (fun x : Cell × Cell × Cell × Cell × Cell × Cell × Cell × Cell => [.val h.t, .val (ttD tt), .val (msD ms), x.1, x.2.1, x.2.2.1, x.2.2.2.1, x.2.2.2.2.1, x.2.2.2.2.2.1, x.2.2.2.2.2.2.1, x.2.2.2.2.2.2.2]) (fun l y => (∀ q ∈ l, RideOk h tt q) ∧ l.findSome? (ff h ms) = cf h tt ms) ?_ ?_ _ (.emp, .emp, .emp, .emp, .emp, .emp, .emp, .emp) ⟨fun q hq => rds_ok hq, rfl⟩
  · rintro x ⟨_, e⟩
    simp [← e]
  · rintro q l x ⟨ho, e⟩
    have o := ho q (by simp)
    obtain ⟨c, h1, h2, h3⟩ := cab_at o
    have m := o.at_ (ms := ms) gh g hn
    have hf := o.fl gh g
    have f0 := gh.f0; have f1 := gh.f1
    have h4 : optD (cf h tt ms) = match fw h ms q with
      | some w => .tup [.str w, .str c.1, .int q.i]
      | none => optD (l.findSome? (ff h ms)) := by
      rw [← e, List.findSome?_cons, ff]
      cases fw h ms q with
      | none => rfl
      | some w => simp only [Option.map_some, h3]
    have ev : ∀ R : DEnv → Prop, gT 5 (gn1 (gN 3) (gn1 (gN 4) (gn1 (gN 5) (gn1 (gN 6) (gn1 (gN 7) gn0))))) (rd5 q) [.val h.t, .val (ttD tt), .val (msD ms), x.1, x.2.1, x.2.2.1, x.2.2.2.1, x.2.2.2.2.1, x.2.2.2.2.2.1, x.2.2.2.2.2.2.1, x.2.2.2.2.2.2.2] (fun δ1 => s_law_ride_fault_0 ⟨R, fun c _ => Q c, fun x => Q (.val .non), R, fun x xs _ => E x xs⟩ δ1) = match fw h ms q with
      | some w => Q (.val (.tup [.str w, .str c.1, .int q.i]))
      | none => R [.val h.t, .val (ttD tt), .val (msD ms), .val (.int q.a), .val (.int q.i), .val (.int q.p), .val (.int q.g), .val (.int q.m), .val (.int (loL h q)), .val (.int (hiL h q)), .val (.int (gm ms (q.m + 3) - gm ms (q.m + 2)))] := fun R => by
      rw [s_law_ride_fault_0]
      simp [l_law_length gh (show (q.p - q.g).natAbs ≤ 1000 by omega), h2, m.e0, m.e1, m.e2, m.e3, m.e4]
      unfold fw
      by_cases c1 : h.r0 + absI (q.p - q.g) * h.r2 ≤ gm ms (q.m + 1) - gm ms q.m <;> by_cases c2 : gm ms (q.m + 1) - gm ms q.m ≤ h.r1 + absI (q.p - q.g) * h.r3 <;> by_cases c3 : 0 < q.i <;> by_cases c4 : gm ms q.m < gm ms (q.m - 1) <;> by_cases c5 : gm ms (q.m + 2) < gm ms (q.m + 1) <;>
        by_cases c6 : h.d0 ≤ gm ms (q.m + 3) - gm ms (q.m + 2) <;> by_cases c7 : gm ms (q.m + 3) - gm ms (q.m + 2) ≤ h.d1 <;> simp [loL, hiL, c1, c2, c3, c4, c5, c6, c7]
    cases hw : fw h ms q with
    | none =>
      rw [hw] at h4
      exact .inl ⟨(.val (.int q.a), .val (.int q.i), .val (.int q.p), .val (.int q.g), .val (.int q.m), .val (.int (loL h q)), .val (.int (hiL h q)), .val (.int (gm ms (q.m + 3) - gm ms (q.m + 2)))), ⟨fun q hq => ho q (by simp [hq]), by rw [← e]; simp [ff, hw]⟩, fun R => (ev R).trans (by rw [hw])⟩
    | some w =>
      rw [hw] at h4
      exact .inr fun R => (ev R).trans (by rw [hw, h4])
end
end Hd

set_option Elab.async false
set_option linter.all false
set_option maxRecDepth 100000
set_option maxHeartbeats 4000000
namespace Hd
open PySem PySem.Spec PyProof.Rows L2 Dn
/-- where a cab is, by the law -/
def lw (ms : List Int) (a : Int) (t : Int) : Int → List Ride → D
  | here, [] => .int here
  | here, q :: l => if (q.a : Int) = a ∧ gm ms q.m < t ∧ t < gm ms (q.m + 1) then .tup [.int q.p, .int q.g] else if (q.a : Int) = a ∧ gm ms (q.m + 1) ≤ t then lw ms a t q.g l else lw ms a t here l
/-- by the program -/
def fo (ms : List Int) (t : Int) : Int → List Ride → D
  | here, [] => .int here
  | here, q :: l => if t ≤ gm ms q.m then .int here else if t < gm ms (q.m + 1) then .tup [.int here, .int q.g] else fo ms t q.g l
def OKc (ms : List Int) : List Ride → Prop
  | [] => True
  | q :: l => gm ms q.m < gm ms (q.m + 1) ∧ (∀ q' ∈ l, gm ms (q.m + 1) ≤ gm ms q'.m) ∧ gm ms (q.m + 1) ≤ gm ms (q.m + 2) ∧ gm ms (q.m + 2) ≤ gm ms (q.m + 3) ∧ (∀ q' ∈ l, gm ms (q.m + 3) ≤ gm ms q'.m) ∧ OKc ms l
section
variable {Q : Cell → Prop} {E : Str → List D → Prop} {h : Hs} {tt : List (List Int)} {ms : List Int} {q : Ride}
theorem lw_cons {a t here : Int} {l : List Ride} : lw ms a t here (q :: l) = if (q.a : Int) = a ∧ gm ms q.m < t ∧ t < gm ms (q.m + 1) then .tup [.int q.p, .int q.g] else if (q.a : Int) = a ∧ gm ms (q.m + 1) ≤ t then lw ms a t q.g l else lw ms a t here l := by
  conv => lhs; unfold lw
theorem fo_cons {t here : Int} {l : List Ride} : fo ms t here (q :: l) = if t ≤ gm ms q.m then .int here else if t < gm ms (q.m + 1) then .tup [.int here, .int q.g] else fo ms t q.g l := by
  conv => lhs; unfold fo
theorem lw_late {a t : Int} : ∀ {l : List Ride} {here : Int}, (∀ q ∈ l, t ≤ gm ms q.m ∧ gm ms q.m < gm ms (q.m + 1)) → lw ms a t here l = .int here
  | [], here, _ => rfl
  | q :: l, here, h => by
    have h0 := h q (by simp)
    unfold lw
    rw [if_neg (by omega), if_neg (by omega)]
    exact lw_late fun q' m => h q' (by simp [m])
theorem OKc.lt : ∀ {l : List Ride}, OKc ms l → ∀ q ∈ l, gm ms q.m < gm ms (q.m + 1)
  | q :: l, h, q', m => by
    rcases List.mem_cons.mp m with rfl | m
    · exact h.1
    · exact OKc.lt h.2.2.2.2.2 q' m
theorem lw_fo {a : Nat} {t : Int} : ∀ {row : List Int} {k : Nat} {p m : Int}, OKc ms (rr a k p m row) → lw ms a t p (rr a k p m row) = fo ms t p (rr a k p m row)
  | [], k, p, m, h => rfl
  | g :: row, k, p, m, h => by
    simp only [rr] at h ⊢
    have h1 := h.1; have h2 := h.2.1
    simp only at h1 h2
    unfold lw fo
    by_cases c1 : t ≤ gm ms m
    · rw [if_neg (by simp; omega), if_neg (by simp; omega), if_pos c1]
      refine lw_late fun q' m' => ⟨?_, OKc.lt h.2.2.2.2.2 q' m'⟩
      have := h2 q' m'
      omega
    · rw [if_neg c1]
      by_cases c2 : t < gm ms (m + 1)
      · rw [if_pos (by simp; omega), if_pos c2]
      · rw [if_neg (by simp; omega), if_pos (by simp; omega), if_neg c2]
        exact lw_fo h.2.2.2.2.2
theorem lw_filter {a : Nat} {t : Int} : ∀ {l : List Ride} {here : Int}, lw ms a t here l = lw ms a t here (l.filter fun q => q.a == a)
  | [], here => rfl
  | q :: l, here => by
    by_cases c : q.a = a
    · rw [List.filter_cons_of_pos (by simp [c])]
      unfold lw
      rw [lw_filter (l := l) (here := q.g), lw_filter (l := l) (here := here)]
    · rw [List.filter_cons_of_neg (by simp [c])]
      conv => lhs; unfold lw
      rw [if_neg (by omega), if_neg (by omega)]
      exact lw_filter
theorem rr_filter {a b : Nat} : ∀ {row : List Int} {k : Nat} {p m : Int}, (rr a k p m row).filter (fun q => q.a == b) = if a = b then rr a k p m row else []
  | [], k, p, m => by simp [rr]
  | g :: row, k, p, m => by
    simp only [rr]
    by_cases c : a = b
    · rw [List.filter_cons_of_pos (by simp [c]), rr_filter]
      simp [c]
    · rw [List.filter_cons_of_neg (by simp [c]), rr_filter]
      simp [c]
theorem rides_filter {b : Nat} : ∀ {cs : List Cab} {tt : List (List Int)} {a : Nat} {m : Int} {c : Cab} {r : List Int}, a ≤ b → cs[b - a]? = some c → tt[b - a]? = some r → (ridesF a m cs tt).filter (fun q => q.a == b) = rr b 0 c.2.2 (m + 4 * (lens (tt.take (b - a)) : Nat)) r
  | [], tt, a, m, c, r, h, h1, h2 => by simp at h1
  | c' :: cs, [], a, m, c, r, h, h1, h2 => by simp at h2
  | c' :: cs, r' :: tt, a, m, c, r, h, h1, h2 => by
    rw [ridesF, List.filter_append, rr_filter]
    by_cases e : a = b
    · subst e
      simp at h1 h2
      subst h1 h2
      have z : (ridesF (a + 1) (m + 4 * (r'.length : Nat)) cs tt).filter (fun q => q.a == a) = [] := by
        rw [List.filter_eq_nil_iff]
        intro q hq
        have := (ridesF_mem hq).1
        simp
        omega
      rw [z]
      simp [lens]
    · rw [if_neg e, List.nil_append]
      have e2 : b - a = (b - (a + 1)) + 1 := by omega
      rw [e2] at h1 h2
      rw [rides_filter (a := a + 1) (by omega) (by simpa using h1) (by simpa using h2), e2]
      congr 1
      simp [lens]
      omega
/-- the rides of one cab -/
theorem rds_of {b : Nat} {c : Cab} {r : List Int} (h1 : h.cs[b]? = some c) (h2 : tt[b]? = some r) : (rds h tt).filter (fun q => q.a == b) = rr b 0 c.2.2 (mkA tt b 0 0) r := by
  have := rides_filter (m := 1) (Nat.zero_le b) (by simpa using h1) (by simpa using h2)
  rw [this, show (1 : Int) + 4 * ((lens (tt.take (b - 0)) : Nat) : Int) = mkA tt b 0 0 by unfold mkA; simp]
structure Sound (h : Hs) (ms : List Int) (q : Ride) : Prop where
  a : gm ms q.m < gm ms (q.m + 1)
  b : 0 < q.i → gm ms (q.m - 1) ≤ gm ms q.m
  c : gm ms (q.m + 1) ≤ gm ms (q.m + 2)
  d : gm ms (q.m + 2) ≤ gm ms (q.m + 3)
theorem sound_of (gh : GoodH h) (g : GoodT h tt) (o : RideOk h tt q) (hw : fw h ms q = none) : Sound h ms q := by
  have hf := o.fl gh g
  have a1 := gh.r0; have a2 := gh.r2; have a3 := gh.d0
  have lo : 1 ≤ loL h q := by
    have e : 1 ≤ absI (q.p - q.g) := by unfold absI; split <;> omega
    have : 1 * 1 ≤ absI (q.p - q.g) * h.r2 := Int.mul_le_mul e a2 (by omega) (by omega)
    unfold loL
    omega
  unfold fw at hw
  split at hw
  · cases hw
  · split at hw
    · cases hw
    · split at hw
      · cases hw
      · exact ⟨by omega, fun p => by omega, by omega, by omega⟩
theorem okc_rr {a : Nat} : ∀ {row : List Int} {k : Nat} {p m : Int}, (∀ q ∈ rr a k p m row, Sound h ms q) → OKc ms (rr a k p m row)
  | [], k, p, m, s => trivial
  | g :: row, k, p, m, s => by
    simp only [rr] at s ⊢
    have ih : OKc ms (rr a (k + 1) g (m + 4) row) := okc_rr fun q hq => s q (by simp [hq])
    have s0 := s _ (List.mem_cons_self ..)
    have sa := s0.a; have sc := s0.c; have sd := s0.d
    have nxt : ∀ q' ∈ rr a (k + 1) g (m + 4) row, gm ms (m + 3) ≤ gm ms q'.m := by
      cases row with
      | nil => simp [rr]
      | cons g' row =>
        simp only [rr] at s ih ⊢
        have s1 := s _ (List.mem_cons_of_mem _ (List.mem_cons_self ..))
        have b1 := s1.b (by simp)
        have a1 := s1.a
        rw [show (⟨a, k + 1, g, g', m + 4⟩ : Ride).m - 1 = m + 3 by simp; omega] at b1
        intro q' hq'
        rcases List.mem_cons.mp hq' with rfl | hq'
        · exact b1
        · have := ih.2.1 q' hq'
          simp only at this a1 b1
          omega
    refine ⟨sa, fun q' hq' => ?_, sc, sd, nxt, ih⟩
    have := nxt q' hq'
    simp only at *
    omega
theorem fo_stand {a : Nat} {t : Int} : ∀ {row : List Int} {k : Nat} {p m : Int}, OKc ms (rr a k p m row) → ∀ q ∈ rr a k p m row, (gm ms (q.m + 1) ≤ t → t ≤ gm ms (q.m + 3) → fo ms t p (rr a k p m row) = .int q.g) ∧ (t = gm ms q.m → fo ms t p (rr a k p m row) = .int q.p)
  | g :: row, k, p, m, o, q, hq => by
    simp only [rr] at o hq ⊢
    have o1 := o.1; have o2 := o.2.1; have o5 := o.2.2.2.2.1
    simp only at o1 o2 o5
    unfold fo
    rcases List.mem_cons.mp hq with rfl | hq
    · refine ⟨fun t1 t2 => ?_, fun e => ?_⟩
      · simp only at t1 t2 ⊢
        rw [if_neg (by omega), if_neg (by omega)]
        cases row with
        | nil => rfl
        | cons g' row =>
          simp only [rr] at o5 ⊢
          unfold fo
          have := o5 _ (List.mem_cons_self ..)
          simp only at this
          rw [if_pos (by simp only; omega)]
      · rw [if_pos (by rw [e]; exact Int.le_refl _)]
    · have h2 := o2 q hq
      have ih := fo_stand (t := t) o.2.2.2.2.2 q hq
      have lt := OKc.lt o.2.2.2.2.2 q hq
      refine ⟨fun t1 t2 => ?_, fun e => ?_⟩
      · simp only
        rw [if_neg (by omega), if_neg (by omega)]
        exact ih.1 t1 t2
      · simp only
        rw [if_neg (by omega), if_neg (by omega)]
        exact ih.2 e
/- the walks -/
theorem l_law_where (gh : GoodH h) (g : GoodT h tt) (hn : ms.length = 1 + 4 * lens tt) {i : Nat} {c : Cab} (hc : h.cs[i]? = some c) {t : Int} : w_law_where [h.t, ttD tt, msD ms, .int i, .int t] Q E = Q (.val (lw ms i t c.2.2 (rds h tt))) := by
  have h2 : atI (h.cs.map cabD) i = some (cabD c) := by
    rw [Dn.atI_nat, List.getElem?_map, hc]
    rfl
  rw [e_law_where, t_law_where]
  simp [h2, l_law_rides gh g]
  refine iff_of_eq ?_
  refine forL_val _ _ (fun x : Int × Cell × Cell × Cell × Cell × Cell => [.val h.t, .val (ttD tt), .val (msD ms), .val (.int i), .val (.int t), .val (.int x.1), x.2.1, x.2.2.1, x.2.2.2.1, x.2.2.2.2.1, x.2.2.2.2.2]) (fun l y => (∀ q ∈ l, RideOk h tt q) ∧ lw ms i t y.1 l = lw ms i t c.2.2 (rds h tt)) ?_ ?_ _ (c.2.2, .emp, .emp, .emp, .emp, .emp) ⟨fun q hq => rds_ok hq, rfl⟩
  · rintro x ⟨_, e⟩
    simp [← e, lw]
  · rintro q l x ⟨ho, e⟩
    have o := ho q (by simp)
    have m := o.at_ (ms := ms) gh g hn
    rw [s_law_where_0]
    rw [lw_cons] at e
    by_cases c1 : (q.a : Int) = i ∧ gm ms q.m < t ∧ t < gm ms (q.m + 1)
    · rw [if_pos c1] at e
      refine .inr fun R => ?_
      obtain ⟨c1, c2, c3⟩ := c1
      have c1 : q.a = i := by omega
      simp [← e, m.e0, m.e1, c1, c2, c3]
    · rw [if_neg c1] at e
      refine .inl ⟨(if (q.a : Int) = i ∧ gm ms (q.m + 1) ≤ t then q.g else x.1, .val (.int q.a), .val (.int q.i), .val (.int q.p), .val (.int q.g), .val (.int q.m)), ⟨fun q hq => ho q (by simp [hq]), ?_⟩, fun R => ?_⟩
      · rw [← e]
        split <;> rfl
      · by_cases d1 : q.a = i
        · by_cases d2 : gm ms q.m < t <;> by_cases d3 : t < gm ms (q.m + 1) <;> by_cases d4 : gm ms (q.m + 1) ≤ t <;> simp [m.e0, m.e1, d1, d2, d3, d4] <;> first | omega | exact (c1 ⟨by omega, d2, d3⟩).elim
        · simp [m.e0, m.e1, show ¬ (q.a : Int) = i by omega]
theorem rr_ok {b : Nat} {c : Cab} {r : List Int} (h1 : h.cs[b]? = some c) (h2 : tt[b]? = some r) : ∀ q ∈ rr b 0 c.2.2 (mkA tt b 0 0) r, q ∈ rds h tt := fun q hq => by
  rw [← rds_of h1 h2] at hq
  exact (List.mem_filter.mp hq).1
theorem l_floor_of (gh : GoodH h) (g : GoodT h tt) (m : GoodM tt ms) {i : Nat} {c : Cab} {r : List Int} (hc : h.cs[i]? = some c) (hr : tt[i]? = some r) {t : Int} (ht : 0 ≤ t) : w_floor_of [h.o, ttD tt, msD ms, .str c.1, .int t] Q E = match cf h tt ms with
    | some _ => E "BadMoments" []
    | none => Q (.val (fo ms t c.2.2 (rr i 0 c.2.2 (mkA tt i 0 0) r))) := by
  have h2 : atI (h.cs.map cabD) i = some (cabD c) := by
    rw [Dn.atI_nat, List.getElem?_map, hc]
    rfl
  have h3 : atI (tt.map rowD) i = some (rowD r) := by
    rw [Dn.atI_nat, List.getElem?_map, hr]
    rfl
  rw [e_floor_of, t_floor_of]
  cases hcf : cf h tt ms with
  | some d =>
    have hd : isNon d = false := by
      obtain ⟨q, _, hq⟩ := List.exists_of_findSome?_eq_some hcf
      unfold ff at hq
      cases hw : fw h ms q with
      | none => rw [hw] at hq; cases hq
      | some w => rw [hw] at hq; cases hq; rfl
    simp [l_check_tt gh g, l_check_all_moments gh g m, l_cab_fault gh g m.n, hcf, hd]
  | none =>
    simp [l_check_tt gh g, l_check_all_moments gh g m, l_cab_fault gh g m.n, hcf, l_cab_number gh hc, ht, h2, h3]
    rw [enumD_map]
    refine iff_of_eq ?_
    refine forL_val _ (fun p : Int × Nat => .tup [.int (p.2 : Nat), D.int p.1]) (fun x : Int × Cell × Cell => [.val h.o, .val (ttD tt), .val (msD ms), .val (.str c.1), .val (.int t), .val (.int i), .val (.int x.1), x.2.1, x.2.2]) (fun l y => ∃ k m rest, l = rest.zipIdx k ∧ (∀ q ∈ rr i k y.1 m rest, q ∈ rds h tt) ∧ fo ms t y.1 (rr i k y.1 m rest) = fo ms t c.2.2 (rr i 0 c.2.2 (mkA tt i 0 0) r)) ?_ ?_ _ (c.2.2, .emp, .emp) ⟨0, mkA tt i 0 0, r, rfl, rr_ok hc hr, rfl⟩
    · rintro x ⟨k, m', rest, e1, e2, e3⟩
      cases rest with
      | nil => simp [← e3, rr, fo]
      | cons b r => simp at e1
    · rintro ⟨f, k⟩ l y ⟨k', m', rest, e1, e2, e3⟩
      cases rest with
      | nil => simp at e1
      | cons b rest =>
        simp at e1
        obtain ⟨⟨rfl, rfl⟩, rfl⟩ := e1
        simp only [rr] at e2 e3
        have o := rds_ok (e2 _ (List.mem_cons_self ..))
        have at_ := o.at_ (ms := ms) gh g m.n
        have k0 := o.mark gh g 0; have k1 := o.mark gh g 1
        simp only [Int.add_zero] at k0
        have a0 := at_.e0; have a1 := at_.e1
        simp only at k0 k1 a0 a1
        rw [fo_cons] at e3
        rw [s_floor_of_0]
        by_cases c1 : t ≤ gm ms m'
        · rw [if_pos c1] at e3
          refine .inr fun R => ?_
          simp [k0, a0, c1, e3]
        · rw [if_neg c1] at e3
          by_cases c2 : t < gm ms (m' + 1)
          · rw [if_pos c2] at e3
            refine .inr fun R => ?_
            simp [k0, a0, c1, k1, a1, c2, e3]
          · rw [if_neg c2] at e3
            refine .inl ⟨(f, .val (.int k), .val (.int f)), ⟨k + 1, m' + 4, rest, rfl, fun q hq => e2 q (by simp [hq]), e3⟩, fun R => ?_⟩
            simp [k0, a0, c1, k1, a1, c2]
end
end Hd

set_option Elab.async false
set_option linter.all false
set_option maxRecDepth 100000
set_option maxHeartbeats 4000000
namespace Hd
open PySem PySem.Spec PyProof.Rows L2 Dn
section
variable {Q : Cell → Prop} {E : Str → List D → Prop} {h : Hs} {tt : List (List Int)} {ms : List Int} {q : Ride}
theorem is_int {n : Nat} {i j : Int} : w_law_is_n (n + 1) [.int i, .int j] Q E = Q (.val (.bl (decide (i = j)))) := by
  show (_ ∧ _) = _
  simp [t_law_is, entry]
theorem is_str {n : Nat} {i j : Str} : w_law_is_n (n + 1) [.str i, .str j] Q E = Q (.val (.bl (decide (i = j)))) := by
  show (_ ∧ _) = _
  simp [t_law_is, entry]
theorem is_tup2 {n : Nat} {a b : Int} : w_law_is_n (n + 2) [.tup [.int a, .int b], .tup [.int a, .int b]] Q E = Q (.val (.bl true)) := by
  show (_ ∧ _) = _
  simp [t_law_is, entry, zipD, x_lcc, x_lcn, is_int]
theorem is_lst {n : Nat} {l : List Int} (hl : l.length ≤ 10) : w_law_is_n (n + 2) [.lst (l.map D.int), .lst (l.map D.int)] Q E = Q (.val (.bl true)) := by
  show (_ ∧ _) = _
  simp [t_law_is, entry, zipD_map]
  rw [lcL_mapE (f := fun _ => .bl true)]
  · simp
  · simp
    exact few_le (by omega)
  · intro p hp R
    have : p.1 = p.2 := by
      have := List.mem_iff_getElem?.mp hp
      obtain ⟨k, hk⟩ := this
      rw [List.getElem?_zip_eq_some] at hk
      have := hk.1.symm.trans hk.2
      exact Option.some.inj this
    simp [is_int, this]
/-- what floor_of tells -/
inductive IsW : D → Prop
  | i (x : Int) : IsW (.int x)
  | p (x y : Int) : IsW (.tup [.int x, .int y])
theorem fo_isW {t : Int} : ∀ {l : List Ride} {p : Int}, IsW (fo ms t p l)
  | [], p => .i p
  | q :: l, p => by
    rw [fo_cons]
    split
    · exact .i p
    · split
      · exact .p _ _
      · exact fo_isW
theorem l_is_w {d : D} (w : IsW d) : w_law_is [d, d] Q E = Q (.val (.bl true)) := by
  cases w with
  | i x =>
    rw [show w_law_is = w_law_is_n 4 from rfl, is_int]
    simp
  | p x y => exact is_tup2
theorem l_is_s {x : Str} : w_law_is [.str x, .str x] Q E = Q (.val (.bl true)) := by
  rw [show w_law_is = w_law_is_n 4 from rfl, is_str]
  simp
theorem l_is_l {l : List Int} (hl : l.length ≤ 10) : w_law_is [.lst (l.map D.int), .lst (l.map D.int)] Q E = Q (.val (.bl true)) := is_lst hl
/- mark_of -/
abbrev words4 : List Str := ["go", "come", "doors", "shut"]
theorem l_mark_of (gh : GoodH h) (g : GoodT h tt) (o : RideOk h tt q) {c : Cab} (hc : h.cs[q.a]? = some c) {k : Nat} {w : Str} (hw : words4[k]? = some w) : w_mark_of [h.o, ttD tt, .str c.1, .int q.i, .str w] Q E = Q (.val (.int (q.m + k))) := by
  obtain ⟨c', r, h1, h2, h3, _⟩ := o.a
  have h3' : q.i < r.length := (List.getElem?_eq_some_iff.mp h3).1
  have e3 : atI (tt.map rowD) q.a = some (rowD r) := by
    rw [Dn.atI_nat, List.getElem?_map, h2]
    rfl
  have e4 : (q.i : Int) ≤ (r.length : Int) - 1 := by omega
  have k0 := o.mark gh g k
  have wd : (c_WORDS.all flatD = true) ∧ ((c_WORDS.any fun y => eqF y (.str w)) = true) := by
    match k, hw with
    | 0, hw => cases hw; decide +kernel
    | 1, hw => cases hw; decide +kernel
    | 2, hw => cases hw; decide +kernel
    | 3, hw => cases hw; decide +kernel
  have ix : ∀ P : D → Prop, onSome (fun ns : List Str => ∃ j : Nat, ns[j]? = some w ∧ (∀ m, m < j → ¬ ns[m]? = some w) ∧ P (.int j)) (allStr (n_WORDS.map D.str)) = P (.int k) := fun P => by
    have e : allStr (n_WORDS.map D.str) = some n_WORDS := by simpa using allStr_map (fun x : Str => x) n_WORDS
    rw [e]
    refine dIxS_of hw fun m hm => ?_
    match k, hw with
    | 0, hw => omega
    | 1, hw => cases hw; match m with | 0 => decide +kernel
    | 2, hw => cases hw; match m with | 0 => decide +kernel | 1 => decide +kernel
    | 3, hw => cases hw; match m with | 0 => decide +kernel | 1 => decide +kernel | 2 => decide +kernel
  rw [e_mark_of, t_mark_of]
  simp [l_check_tt gh g, l_cab_number gh hc, e3, e4]
  obtain ⟨wd1, wd2⟩ := wd
  simp at wd1 wd2
  have z := ix (fun d => w_mark_at [ttD tt, .int q.a, .int q.i, d] (onVal fun d => Q (.val d)) fun x xs => E x xs)
  rw [and_iff_right wd1, and_iff_right wd2]
  refine iff_of_eq (z.trans ?_)
  rw [k0]
  rfl
theorem isNon_optD {o : Option D} : ∀ {d : D}, o = some d → isNon d = false → isNon (optD o) = false := fun e n => by rw [e]; exact n
theorem l_marks_right (gh : GoodH h) (g : GoodT h tt) : w_law_marks_right [h.o, h.t, ttD tt] Q E = Q (.val (.bl true)) := by
  rw [e_law_marks_right, t_law_marks_right]
  simp [l_law_rides gh g]
  refine iff_of_eq ?_
  refine forL_val _ _ (fun x : Cell × Cell × Cell × Cell × Cell × Cell => [.val h.o, .val h.t, .val (ttD tt), .val (.lst [.str "go", .str "come", .str "doors", .str "shut"]), x.1, x.2.1, x.2.2.1, x.2.2.2.1, x.2.2.2.2.1, x.2.2.2.2.2, .emp]) (fun l y => (∀ q ∈ l, RideOk h tt q)) ?_ ?_ _ (.emp, .emp, .emp, .emp, .emp, .emp) (fun q hq => rds_ok hq)
  · rintro x _
    simp
  · rintro q l x ho
    have o := ho q (by simp)
    obtain ⟨c, h1, h2, h3⟩ := cab_at o
    have m0 := fun Q E => l_mark_of (Q := Q) (E := E) gh g o h1 (k := 0) rfl
    have m1 := fun Q E => l_mark_of (Q := Q) (E := E) gh g o h1 (k := 1) rfl
    have m2 := fun Q E => l_mark_of (Q := Q) (E := E) gh g o h1 (k := 2) rfl
    have m3 := fun Q E => l_mark_of (Q := Q) (E := E) gh g o h1 (k := 3) rfl
    simp at m0 m1 m2 m3
    have z := fun Q E => l_is_l (Q := Q) (E := E) (l := [q.m, q.m + 1, q.m + 2, q.m + 3]) (by simp)
    simp at z
    refine .inl ⟨(.val (.int q.a), .val (.int q.i), .val (.int q.p), .val (.int q.g), .val (.int q.m), .val (.str c.1)), fun q hq => ho q (by simp [hq]), fun R => ?_⟩
    rw [s_law_marks_right_0]
    simp [h2, x_lcc, x_lcn, m0, m1, m2, m3, z]
theorem gm_pos (m : GoodM tt ms) (o : RideOk h tt q) (gh : GoodH h) (g : GoodT h tt) {k : Int} (h0 : 0 ≤ k) (h1 : k ≤ 3) : 0 ≤ gm ms (q.m + k) := by
  obtain ⟨b1, b2, _⟩ := o.bd gh g
  have hn := m.n
  unfold gm
  have hl : (q.m + k).toNat < ms.length := by omega
  rw [List.getD_eq_getElem?_getD, List.getElem?_eq_getElem hl]
  exact m.p _ (List.getElem_mem hl)
theorem okc_of (gh : GoodH h) (g : GoodT h tt) (hcf : cf h tt ms = none) {i : Nat} {c : Cab} {r : List Int} (hc : h.cs[i]? = some c) (hr : tt[i]? = some r) : OKc ms (rr i 0 c.2.2 (mkA tt i 0 0) r) := by
  refine okc_rr (h := h) fun q hq => ?_
  have hq' := rr_ok hc hr q hq
  refine sound_of gh g (rds_ok hq') ?_
  have := List.findSome?_eq_none_iff.mp hcf q hq'
  unfold ff at this
  cases hw : fw h ms q with
  | none => rfl
  | some w => rw [hw] at this; cases this
theorem l_stands_right (gh : GoodH h) (g : GoodT h tt) (m : GoodM tt ms) (hcf : cf h tt ms = none) : w_law_stands_right [h.o, h.t, ttD tt, msD ms] Q E = Q (.val (.bl true)) := by
  rw [e_law_stands_right, t_law_stands_right]
  simp [l_law_rides gh g]
  refine iff_of_eq ?_
  refine forL_val _ _ (fun x : Cell × Cell × Cell × Cell × Cell × Cell × Cell => [.val h.o, .val h.t, .val (ttD tt), .val (msD ms), x.1, x.2.1, x.2.2.1, x.2.2.2.1, x.2.2.2.2.1, x.2.2.2.2.2.1, x.2.2.2.2.2.2, .emp]) (fun l y => (∀ q ∈ l, q ∈ rds h tt)) ?_ ?_ _ (.emp, .emp, .emp, .emp, .emp, .emp, .emp) (fun q hq => hq)
  · rintro x _
    simp
  · rintro q l x ho
    have hq := ho q (by simp)
    have o := rds_ok hq
    obtain ⟨c, h1, h2, h3⟩ := cab_at o
    obtain ⟨c', r, h1', h2', h3', _⟩ := o.a
    have at_ := o.at_ (ms := ms) gh g m.n
    have hq2 : q ∈ rr q.a 0 c.2.2 (mkA tt q.a 0 0) r := by
      rw [← rds_of h1 h2']
      exact List.mem_filter.mpr ⟨hq, by simp⟩
    have ok := okc_of gh g hcf h1 h2'
    have st := fun t => fo_stand (t := t) ok q hq2
    have so : Sound h ms q := sound_of gh g o (by
      have := List.findSome?_eq_none_iff.mp hcf q hq
      unfold ff at this
      cases hw : fw h ms q with
      | none => rfl
      | some w => rw [hw] at this; cases this)
    have sa := so.a; have sc := so.c; have sd := so.d
    have p0 := gm_pos m o gh g (k := 0) (by decide) (by decide)
    have p1 := gm_pos m o gh g (k := 1) (by decide) (by decide)
    have p2 := gm_pos m o gh g (k := 2) (by decide) (by decide)
    have p3 := gm_pos m o gh g (k := 3) (by decide) (by decide)
    rw [Int.add_zero] at p0
    have f : ∀ t, 0 ≤ t → ∀ Q E, w_floor_of [h.o, ttD tt, msD ms, .str c.1, .int t] Q E = Q (.val (fo ms t c.2.2 (rr q.a 0 c.2.2 (mkA tt q.a 0 0) r))) := fun t ht Q E => by
      rw [l_floor_of gh g m h1 h2' ht, hcf]
    have f0 := f _ p0; have f1 := f _ p1; have f2 := f _ p2; have f3 := f _ p3
    rw [(st _).2 rfl] at f0
    rw [(st _).1 (by omega) (by omega)] at f1 f2 f3
    have z := fun Q E => l_is_l (Q := Q) (E := E) (l := [q.g, q.g, q.g]) (by simp)
    simp at z
    refine .inl ⟨(.val (.int q.a), .val (.int q.i), .val (.int q.p), .val (.int q.g), .val (.int q.m), .val (.str c.1), .val (.lst [.int (gm ms (q.m + 1)), .int (gm ms (q.m + 2)), .int (gm ms (q.m + 3))])), fun q hq => ho q (by simp [hq]), fun R => ?_⟩
    rw [s_law_stands_right_0]
    simp [h2, at_.e0, at_.e1, at_.e2, at_.e3, x_lcc, x_lcn, f0, f1, f2, f3, List.replicate, z, l_is_w (.i _)]
end
end Hd

set_option Elab.async false
set_option linter.all false
set_option maxRecDepth 100000
set_option maxHeartbeats 4000000
namespace Hd
open PySem PySem.Spec PyProof.Rows L2 Dn
def EndD (L : Int) (e : D) : Prop := e = .non ∨ ∃ j, e = .int j ∧ 0 ≤ j ∧ j < L
def SpanD (fl L : Int) (d : D) : Prop := ∃ b f e, d = .tup [.int b, .int f, e] ∧ 0 ≤ b ∧ b < L ∧ 0 ≤ f ∧ f < fl ∧ EndD L e
def Sp5 (fl L : Int) (d : D) : Prop := ∃ n s f b e, d = .tup [.int n, .int s, .int f, .int b, e] ∧ 0 ≤ s ∧ s ≤ 9 ∧ 0 ≤ b ∧ b < L ∧ 0 ≤ f ∧ f < fl ∧ EndD L e
def Hold4 (L : Int) (d : D) : Prop := ∃ b e t, d = .tup [.int 0, .int b, e, .int t] ∧ 0 ≤ b ∧ b < L ∧ EndD L e
section
variable {Q : Cell → Prop} {E : Str → List D → Prop} {h : Hs} {tt : List (List Int)} {ms : List Int} {q : Ride}
theorem l_over {L : Int} (hL : (ms.length : Int) = L) {x y : D} (hx : Hold4 L x) (hy : Hold4 L y) : ∃ b : Bool, ∀ Q E, w_is_over_ahead [x, y, msD ms] Q E = Q (.val (.bl b)) := by
  obtain ⟨b, e, t, rfl, h1, h2, h3⟩ := hx
  obtain ⟨b', e', t', rfl, h1', h2', h3'⟩ := hy
  have a1 := atI_intF (l := ms) (j := b) h1 (by omega)
  have a2 := atI_intF (l := ms) (j := b') h1' (by omega)
  rcases h3 with rfl | ⟨j, rfl, h4, h5⟩
  · refine ⟨false, fun Q E => ?_⟩
    rw [e_is_over_ahead, t_is_over_ahead]
    simp
  · have a3 := atI_intF (l := ms) (j := j) h4 (by omega)
    refine ⟨decide (ms.getD j.toNat 0 + t ≤ ms.getD b'.toNat 0), fun Q E => ?_⟩
    rw [e_is_over_ahead, t_is_over_ahead]
    simp [a3, a2]
theorem l_meet {L : Int} (hL : (ms.length : Int) = L) {x y : D} (hx : Hold4 L x) (hy : Hold4 L y) : ∃ b : Bool, ∀ Q E, w_meet [x, y, msD ms] Q E = Q (.val (.bl b)) := by
  obtain ⟨b1, e1⟩ := l_over hL hx hy
  obtain ⟨b2, e2⟩ := l_over hL hy hx
  refine ⟨!b1 && !b2, fun Q E => ?_⟩
  rw [e_meet, t_meet]
  simp [e1, e2]
  cases b1 <;> simp
theorem mark_bd (g : GoodT h tt) {n k : Nat} {r : List Int} (hr : tt[n]? = some r) (hk : k < r.length) {w : Int} (h0 : 0 ≤ w) (h1 : w ≤ 3) : 0 ≤ mkA tt n k w ∧ mkA tt n k w < 1 + 4 * (lens tt : Nat) := by
  have := lens_take_lt hr hk
  unfold mkA
  omega
theorem l_mark (g : GoodT h tt) (gh : GoodH h) (n k : Nat) (w : Int) (hk : k ≤ 100) (Q : Cell → Prop) (E : Str → List D → Prop) : w_mark_at [ttD tt, .int n, .int k, .int w] Q E = Q (.val (.int (mkA tt n k w))) := by
  rw [l_mark_at g gh (by omega)]
  rfl
abbrev stP (h : Hs) (tt : List (List Int)) (n : Nat) (r : List Int) (x : Int × List D × Cell × Cell × Cell × Cell × Cell) : DEnv := [.val h.o, .val (ttD tt), .val (.int n), .val (rowD r), .val (.int x.1), .own (.lst x.2.1), x.2.2.1, x.2.2.2.1, x.2.2.2.2.1, x.2.2.2.2.2.1, x.2.2.2.2.2.2]
theorem passes {fl L : Int} {n : Nat} {r : List Int} {here f go lo : Int} {c6 c10 : Cell} (N : Nat) (hgo : 0 ≤ go ∧ go + 1 < L) (hlo : 0 ≤ lo ∧ lo + N ≤ fl) (fs : List D) (hfs : ∀ d ∈ fs, SpanD fl L d) (hfl : fs.length + N ≤ 1000) (c9 : Cell) :
    ∃ x' : List D × Cell, (∀ d ∈ x'.1, SpanD fl L d) ∧ x'.1.length = fs.length + N ∧ ∀ (nx bk ct : DEnv → Prop) (rt : Cell → DEnv → Prop) (ex : XD), forL (gN 9) s_cab_spans_0 ⟨nx, rt, bk, ct, ex⟩ (rngD lo N) (stP h tt n r (here, fs, c6, .val (.int f), .val (.int go), c9, c10)) = nx (stP h tt n r (here, x'.1, c6, .val (.int f), .val (.int go), x'.2, c10)) := by
  unfold rngD
  refine (forL_ex (gt := gN 9) (s := s_cab_spans_0) (fun i : Nat => .int (lo + (i : Nat))) (st := fun x : List D × Cell => stP h tt n r (here, x.1, c6, .val (.int f), .val (.int go), x.2, c10)) (I := fun l y => (∀ i ∈ l, i < N) ∧ (∀ d ∈ y.1, SpanD fl L d) ∧ y.1.length + l.length = fs.length + N) ?_ (List.range N) (fs, c9) ⟨fun i hi => List.mem_range.mp hi, hfs, by simp⟩).elim ?_
  · rintro i l x ⟨h1, h2, h3⟩
    have hi := h1 i (by simp)
    have hf : few x.1.length := few_le (by simp at h3; omega)
    refine ⟨(x.1 ++ [.tup [.int go, .int (lo + i), .int (go + 1)]], .val (.int (lo + i))), ⟨fun j hj => h1 j (by simp [hj]), fun d hd => ?_, by simp at h3 ⊢; omega⟩, fun R N rt ex => ?_⟩
    · rcases List.mem_append.mp hd with hd | hd
      · exact h2 d hd
      · rw [List.mem_singleton.mp hd]
        exact ⟨_, _, _, rfl, by omega, by omega, by omega, by omega, .inr ⟨_, rfl, by omega, by omega⟩⟩
    · rw [s_cab_spans_0]
      simp [hf]
  · rintro x' ⟨⟨h1, h2, h3⟩, h4⟩
    exact ⟨x', h2, by simpa using h3, h4⟩
theorem spans_loop (gh : GoodH h) (g : GoodT h tt) {n : Nat} {r : List Int} (hr : tt[n]? = some r) (hrow : ∀ x ∈ r, 0 ≤ x ∧ x < h.fl) {p : Int} (hp : 0 ≤ p ∧ p < h.fl) (hl : r.length ≤ 8) {d0 : D} (hd : SpanD h.fl (1 + 4 * (lens tt : Nat)) d0) :
    ∃ x' : Int × List D × Cell × Cell × Cell × Cell × Cell, (∀ d ∈ x'.2.1, SpanD h.fl (1 + 4 * (lens tt : Nat)) d) ∧ x'.2.1.length ≤ 1 + 5 * r.length ∧ ∀ (nx bk ct : DEnv → Prop) (rt : Cell → DEnv → Prop) (ex : XD), forL (gT 2 (gn1 (gN 6) (gn1 (gN 7) gn0))) s_cab_spans_1 ⟨nx, rt, bk, ct, ex⟩ (enumD (r.map D.int)) (stP h tt n r (p, [d0], .emp, .emp, .emp, .emp, .emp)) = nx (stP h tt n r x') := by
  have f0 := gh.f0; have f1 := gh.f1
  rw [enumD_map]
  refine (forL_ex (gt := gT 2 (gn1 (gN 6) (gn1 (gN 7) gn0))) (s := s_cab_spans_1) (fun p : Int × Nat => .tup [.int (p.2 : Nat), D.int p.1]) (st := stP h tt n r) (I := fun l y => ∃ k rest, l = rest.zipIdx k ∧ (∀ x ∈ rest, 0 ≤ x ∧ x < h.fl) ∧ k + rest.length = r.length ∧ (0 ≤ y.1 ∧ y.1 < h.fl) ∧ (∀ d ∈ y.2.1, SpanD h.fl (1 + 4 * (lens tt : Nat)) d) ∧ y.2.1.length + 5 * rest.length ≤ 1 + 5 * r.length) ?_ r.zipIdx (p, [d0], .emp, .emp, .emp, .emp, .emp) ⟨0, r, rfl, hrow, by simp, hp, by simpa using hd, by simp⟩).elim ?_
  · rintro ⟨f, k⟩ l y ⟨k', rest, e1, e2, e3, e4, e5, e6⟩
    cases rest with
    | nil => simp at e1
    | cons b rest =>
      simp at e1
      obtain ⟨⟨rfl, rfl⟩, rfl⟩ := e1
      have hf := e2 f (by simp)
      simp only [List.length_cons] at e3 e6
      have m0 := mark_bd g hr (k := k) (by omega) (w := 0) (by decide) (by decide)
      have m1 := mark_bd g hr (k := k) (by omega) (w := 1) (by decide) (by decide)
      have m01 : mkA tt n k 1 = mkA tt n k 0 + 1 := by unfold mkA; omega
      have k0 := l_mark g gh n k 0 (by omega)
      have k1 := l_mark g gh n (k + 1) 1 (by omega)
      simp only [Int.natCast_add, Int.natCast_one] at k1
      have small_ : ∀ z : Int, 0 ≤ z → z ≤ 1000 → small z := fun z a b => ⟨by omega, by omega⟩
      obtain ⟨lo, hlo⟩ : ∃ lo : Int, lo = (if f < y.1 then f else y.1) + 1 := ⟨_, rfl⟩
      obtain ⟨hi, hhi⟩ : ∃ hi : Int, hi = (if y.1 < f then f else y.1) := ⟨_, rfl⟩
      have b1 : 0 ≤ lo ∧ lo ≤ h.fl := by rw [hlo]; split <;> omega
      have b2 : 0 ≤ hi ∧ hi < h.fl := by rw [hhi]; split <;> omega
      have b3 : (hi - lo).toNat ≤ 4 := by
        have : 1 ≤ lo := by rw [hlo]; split <;> omega
        omega
      obtain ⟨x', p1, p2, p3⟩ := passes (h := h) (tt := tt) (fl := h.fl) (L := 1 + 4 * (lens tt : Nat)) (n := n) (r := r) (here := y.1) (f := f) (go := mkA tt n k 0) (lo := lo) (c6 := .val (.int k)) (c10 := y.2.2.2.2.2.2) (hi - lo).toNat ⟨m0.1, by omega⟩ ⟨b1.1, by omega⟩ y.2.1 e5 (by omega) y.2.2.2.2.2.1
      have hfew : few x'.1.length := few_le (by omega)
      refine ⟨(f, x'.1 ++ [.tup [.int (mkA tt n k 0), .int f, if k + 1 < r.length then .int (mkA tt n (k + 1 : Nat) 1) else .non]], .val (.int k), .val (.int f), .val (.int (mkA tt n k 0)), x'.2, .val (if k + 1 < r.length then .int (mkA tt n (k + 1 : Nat) 1) else .non)), ⟨k + 1, rest, rfl, fun x hx => e2 x (by simp [hx]), by omega, hf, fun d hd => ?_, by simp; omega⟩, fun R N rt ex => ?_⟩
      · rcases List.mem_append.mp hd with hd | hd
        · exact p1 d hd
        · rw [List.mem_singleton.mp hd]
          refine ⟨_, _, _, rfl, m0.1, m0.2, hf.1, hf.2, ?_⟩
          split
          · rename_i hk
            have m2 := mark_bd g hr hk (w := 1) (by decide) (by decide)
            exact .inr ⟨_, rfl, m2.1, m2.2⟩
          · exact .inl rfl
      · rw [s_cab_spans_1]
        simp [k0]
        rw [← hlo, ← hhi, and_iff_right (small_ lo b1.1 (by omega)), and_iff_right (small_ hi b2.1 (by omega))]
        refine iff_of_eq ((p3 _ _ _ _ _).trans ?_)
        by_cases hk : k + 1 < r.length
        · have hk' : (k : Int) + 1 < r.length := by omega
          simp [hk, hk', k1, hfew]
        · have hk' : ¬ (k : Int) + 1 < r.length := by omega
          simp [hk, hk', hfew]
  · rintro x' ⟨⟨k, rest, e1, e2, e3, e4, e5, e6⟩, h2⟩
    exact ⟨x', e5, by omega, h2⟩
theorem three_span {fl L : Int} {d : D} (s : SpanD fl L d) : three d := by
  obtain ⟨b, f, e, rfl, _⟩ := s
  exact ⟨_, _, _, rfl⟩
theorem l_cab_spans (gh : GoodH h) (g : GoodT h tt) {n : Nat} {c : Cab} {r : List Int} (hc : h.cs[n]? = some c) (hr : tt[n]? = some r)
    (k : ∀ ds : List D, (∀ d ∈ ds, SpanD h.fl (1 + 4 * (lens tt : Nat)) d) → ds.length ≤ 1 + 5 * r.length → Q (.val (.lst ds))) : w_cab_spans [h.o, ttD tt, .int n] Q E := by
  have h2 : atI (h.cs.map cabD) n = some (cabD c) := by
    rw [Dn.atI_nat, List.getElem?_map, hc]
    rfl
  have h3 : atI (tt.map rowD) n = some (rowD r) := by
    rw [Dn.atI_nat, List.getElem?_map, hr]
    rfl
  have f0 := gh.f0; have f1 := gh.f1
  have gc := gh.cg c (List.mem_of_getElem? hc)
  have gr : GoodRow h.fl c.2.2 r := g.r (c, r) (List.mem_of_getElem? (i := n) (by rw [List.getElem?_zip_eq_some]; exact ⟨hc, hr⟩))
  have hl : r.length ≤ 8 := Nat.le_trans (len_le_lens (List.mem_of_getElem? hr)) g.s
  have k1 := l_mark g gh n 0 1 (by omega)
  simp only [Int.ofNat_zero, Int.natCast_zero] at k1
  have fin : ∀ x' : Int × List D × Cell × Cell × Cell × Cell × Cell, (∀ d ∈ x'.2.1, SpanD h.fl (1 + 4 * (lens tt : Nat)) d) → x'.2.1.length ≤ 1 + 5 * r.length → retD (sortKD (ownV 5)) ⟨fun x => Q (.val .non), fun c x => Q c, fun x => False, fun x => False, fun x xs _ => E x xs⟩ (stP h tt n r x') := fun x' h1 h2 => by
    simp [sortKD]
    refine ⟨fun d hd => three_span (h1 d hd), fun ds' hp => k ds' (fun d hd => h1 d (hp.mem_iff.mp hd)) (by rw [hp.length_eq]; exact h2)⟩
  rw [e_cab_spans, t_cab_spans]
  simp [h2, h3]
  split
  · rename_i hpos
    have m1 := mark_bd g hr (k := 0) hpos (w := 1) (by decide) (by decide)
    rw [k1]
    obtain ⟨x', p1, p2, p3⟩ := spans_loop gh g hr gr.f ⟨gc.p0, gc.p1⟩ hl (d0 := .tup [.int 0, .int c.2.2, .int (mkA tt n (0 : Nat) 1)]) ⟨_, _, _, rfl, by omega, by omega, gc.p0, gc.p1, .inr ⟨_, rfl, m1.1, m1.2⟩⟩
    simp only [x_onVal]
    exact (p3 _ _ _ _ _).mpr (fin x' p1 p2)
  · obtain ⟨x', p1, p2, p3⟩ := spans_loop gh g hr gr.f ⟨gc.p0, gc.p1⟩ hl (d0 := .tup [.int 0, .int c.2.2, .non]) ⟨_, _, _, rfl, by omega, by omega, gc.p0, gc.p1, .inl rfl⟩
    exact (p3 _ _ _ _ _).mpr (fin x' p1 p2)
end
end Hd

set_option Elab.async false
set_option linter.all false
set_option maxRecDepth 100000
set_option maxHeartbeats 4000000
namespace Hd
open PySem PySem.Spec PyProof.Rows L2 Dn
section
variable {Q : Cell → Prop} {E : Str → List D → Prop} {h : Hs} {tt : List (List Int)} {ms : List Int} {q : Ride}
/-- a span's place -/
def keyOf : D → List Key
  | .tup [_, .int s, .int f, _, _] => [.inl s, .inl f]
  | _ => []
abbrev stF (h : Hs) (tt : List (List Int)) (x : List D × Cell × Cell × Cell × Cell × Cell) : DEnv := [.val h.o, .val (ttD tt), .own (.lst x.1), x.2.1, x.2.2.1, x.2.2.2.1, x.2.2.2.2.1, x.2.2.2.2.2, .emp, .emp, .emp]
theorem collect {fl L : Int} {n : Nat} {c : Cab} (gc : GoodCab fl c) (ds : List D) (hds : ∀ d ∈ ds, SpanD fl L d) (fs : List D) (hfs : ∀ d ∈ fs, Sp5 fl L d) (hfl : fs.length + ds.length ≤ 1000) (c5 c6 c7 : Cell) :
    ∃ x' : List D × Cell × Cell × Cell, (∀ d ∈ x'.1, Sp5 fl L d) ∧ x'.1.length = fs.length + ds.length ∧ ∀ (nx bk ct : DEnv → Prop) (rt : Cell → DEnv → Prop) (ex : XD), forL (gT 3 (gn1 (gN 5) (gn1 (gN 6) (gn1 (gN 7) gn0)))) s_shared_spans_0 ⟨nx, rt, bk, ct, ex⟩ ds (stF h tt (fs, .val (.int n), .val (cabD c), c5, c6, c7)) = nx (stF h tt (x'.1, .val (.int n), .val (cabD c), x'.2.1, x'.2.2.1, x'.2.2.2)) := by
  refine (forL_exD (gt := gT 3 (gn1 (gN 5) (gn1 (gN 6) (gn1 (gN 7) gn0)))) (s := s_shared_spans_0) (st := fun x : List D × Cell × Cell × Cell => stF h tt (x.1, .val (.int n), .val (cabD c), x.2.1, x.2.2.1, x.2.2.2)) (I := fun l y => (∀ d ∈ l, SpanD fl L d) ∧ (∀ d ∈ y.1, Sp5 fl L d) ∧ y.1.length + l.length = fs.length + ds.length) ?_ ds (fs, c5, c6, c7) ⟨hds, hfs, rfl⟩).elim ?_
  · rintro d l x ⟨h1, h2, h3⟩
    obtain ⟨b, f, e, rfl, a1, a2, a3, a4, a5⟩ := h1 d (by simp)
    have hf : few x.1.length := few_le (by simp at h3; omega)
    refine ⟨(x.1 ++ [.tup [.int n, .int c.2.1, .int f, .int b, e]], .val (.int b), .val (.int f), .val e), ⟨fun j hj => h1 j (by simp [hj]), fun d hd => ?_, by simp at h3 ⊢; omega⟩, fun R N rt ex => ?_⟩
    · rcases List.mem_append.mp hd with hd | hd
      · exact h2 d hd
      · rw [List.mem_singleton.mp hd]
        exact ⟨_, _, _, _, _, rfl, gc.s0, gc.s1, a1, a2, a3, a4, a5⟩
    · rw [s_shared_spans_0]
      simp [hf]
  · rintro x' ⟨⟨h1, h2, h3⟩, h4⟩
    exact ⟨x', h2, by simpa using h3, h4⟩
structure InvA (N : Nat) (acc : Acc) : Prop where
  l : acc.length ≤ N
  d : ∀ e ∈ acc, ∃ ks us, e.2 = .dck ks us ∧ ks.length ≤ N
abbrev stG (h : Hs) (tt : List (List Int)) (p : Addr) (fs : List D) (x : Cell × Cell × Cell × Cell × Cell × Cell) : DEnv := [.val h.o, .val (ttD tt), .val (.lst fs), x.1, x.2.1, x.2.2.1, x.2.2.2.1, x.2.2.2.2.1, .val (.at p), x.2.2.2.2.2, .emp]
theorem putKs_len (k : Key) (ks : List Key) : (putKs k ks).length ≤ ks.length + 1 := by
  unfold putKs
  split <;> simp
theorem grpA_loop {fl L : Int} {p : Addr} {fs : List D} {Qf : Acc → DEnv → Prop} : ∀ (ds : List D) (N : Nat) (acc : Acc) (x : Cell × Cell × Cell × Cell × Cell × Cell), (∀ d ∈ ds, Sp5 fl L d) → N + ds.length ≤ 1000 → InvA N acc →
    (∀ acc' x', InvA (N + ds.length) acc' → (∀ k, (k ∈ acc.map (·.1) ∨ ∃ d ∈ ds, keyOf d = k) → k ∈ acc'.map (·.1)) → Qf acc' (stG h tt p fs x')) →
    grpA (gT 5 (gn1 (gN 3) (gn1 (gN 9) (gn1 (gN 6) (gn1 (gN 5) (gn1 (gN 7) gn0)))))) (acD (vD 9) (acD (vD 6) anD)) (vD 3) (cD (.bl true)) 8 p Qf ds acc (stG h tt p fs x)
  | [], N, acc, x, _, _, i, k => by
    unfold grpA
    exact k acc x (by simpa using i) fun k' h' => by simpa using h'
  | d :: ds, N, acc, x, hd, hN, i, k => by
    obtain ⟨n, s, f, b, e, rfl, _⟩ := hd d (by simp)
    unfold grpA
    have hf : few acc.length := few_le (by have := i.l; omega)
    obtain ⟨e', g1, g2, g3⟩ := ensG_spec [.inl s, .inl f] (.dck [] []) acc
    have g4 : ∃ ks us, e'.2 = .dck ks us ∧ ks.length ≤ N := by
      rcases g3 with g3 | rfl
      · exact i.d e' g3
      · exact ⟨[], [], rfl, by simp⟩
    obtain ⟨ks, us, g5, g6⟩ := g4
    have hf2 : few ks.length := few_le (by omega)
    obtain ⟨s1, s2, s3⟩ := ensG_set (k := [.inl s, .inl f]) (new := .dck [] []) (d := .dck (putKs (.inl n) ks) (putDs (.inl n) (.bl true) ks us)) (acc := acc)
    have i' : InvA (N + 1) ((ensG [.inl s, .inl f] (.dck [] []) acc).set (idxG [.inl s, .inl f] acc) ([.inl s, .inl f], .dck (putKs (.inl n) ks) (putDs (.inl n) (.bl true) ks us))) := ⟨Nat.le_trans s3 (by have := i.l; omega), fun e he => by
      rcases s1 e he with he | rfl
      · obtain ⟨ks, us, q1, q2⟩ := i.d e he
        exact ⟨ks, us, q1, by omega⟩
      · exact ⟨_, _, rfl, Nat.le_trans (putKs_len _ _) (by omega)⟩⟩
    have ih := grpA_loop (fl := fl) (L := L) (p := p) (fs := fs) (Qf := Qf) ds (N + 1) _ (.val (.int n), x.2.1, .val (.int b), .val (.int f), .val e, .val (.int s)) (fun d hd' => hd d (by simp [hd'])) (by simp at hN; omega) i' fun acc' x' i2 h2 => k acc' x' (by rw [List.length_cons, show N + (ds.length + 1) = N + 1 + ds.length by omega]; exact i2) fun k' hk' => h2 k' (by
        rw [← s2]
        rcases hk' with hk' | ⟨d, hd', rfl⟩
        · exact .inl (.inr hk')
        · rcases List.mem_cons.mp hd' with rfl | hd'
          · exact .inl (.inl rfl)
          · exact .inr ⟨d, hd', rfl⟩)
    simp [keysD, keyD, hf, innG, g1, g5, hf2]
    exact ih
theorem shared_end {fl L : Int} {p : Addr} {fs : List D} {acc : Acc} {x : Cell × Cell × Cell × Cell × Cell × Cell} (N : Nat) (hN : fs.length ≤ 1000) (i : InvA N acc) (hfs : ∀ d ∈ fs, Sp5 fl L d) (hk : ∀ d ∈ fs, keyOf d ∈ acc.map (·.1))
    (k : ∀ ds : List D, (∀ d ∈ ds, Sp5 fl L d) → ds.length ≤ fs.length → Q (.val (.lst ds))) :
    retD (frD (lcF (ilD (vD 2)) (gN 10) (tD (opD dGt (callBD cLenD (acD (getSD (vD 8) (vD 10) (soO (cD (.int 1))) (soO (cD (.int 3)))) anD)) (cD (.int 1)))) (vD 10) [10])) ⟨fun x => Q (.val .non), fun c x => Q c, fun x => False, fun x => False, fun x xs _ => E x xs⟩ [.val h.o, .val (ttD tt), .val (.lst fs), x.1, x.2.1, x.2.2.1, x.2.2.2.1, x.2.2.2.2.1, .val (.dct (acc.map (·.1)) (acc.map (·.2))), x.2.2.2.2.2, .emp] := by
  simp
  obtain ⟨ys, h1, h2⟩ := lcL_sub (gt := gN 10) (tst := tD (opD dGt (callBD cLenD (acD (getSD (vD 8) (vD 10) (soO (cD (.int 1))) (soO (cD (.int 3)))) anD)) (cD (.int 1)))) (elt := vD 10) (vs := [10])
    (δ := [.val h.o, .val (ttD tt), .val (.lst fs), x.1, x.2.1, x.2.2.1, x.2.2.2.1, x.2.2.2.2.1, .val (.dct (acc.map (·.1)) (acc.map (·.2))), x.2.2.2.2.2, .emp]) fs [] (few_le (by simp; omega)) (fun d hd => by
      have hk' := hk d hd
      obtain ⟨n, s, f, b, e, rfl, _⟩ := hfs d hd
      obtain ⟨e', he, _, hl⟩ := lookD_of hk'
      obtain ⟨ks, us, g5, g6⟩ := i.d e' he
      simp only [keyOf] at hl
      refine ⟨decide ((1 : Int) < ks.length), fun R R' => ?_⟩
      have hc : Dn.cutD [.int n, .int s, .int f, .int b, e] (some 1) (some 3) = [.int s, .int f] := rfl
      have hn : ¬ (HT.sIx 5 0 (some 1) = 0 ∧ HT.sIx 5 5 (some 3) = 5) := by decide
      simp [getSD, hc, hn, keysD, keyD, hl, g5])
  rw [h2]
  simp
  exact k ys (fun d hd => hfs d (h1.subset hd)) h1.length_le
theorem l_shared_spans (gh : GoodH h) (g : GoodT h tt) (k : ∀ ds : List D, (∀ d ∈ ds, Sp5 h.fl (1 + 4 * (lens tt : Nat)) d) → ds.length ≤ 44 → Q (.val (.lst ds))) : w_shared_spans [h.o, ttD tt] Q E := by
  have hc1 := gh.c1
  rw [e_shared_spans, t_shared_spans]
  simp
  rw [enumD_map]
  refine forL_to _ (fun l δ => ∃ (a : Nat) (cpre cs : List Cab) (tpre ts : List (List Int)) (x : List D × Cell × Cell × Cell × Cell × Cell), h.cs = cpre ++ cs ∧ tt = tpre ++ ts ∧ a = cpre.length ∧ a = tpre.length ∧ cs.length = ts.length ∧ l = cs.zipIdx a ∧ δ = stF h tt x ∧ (∀ d ∈ x.1, Sp5 h.fl (1 + 4 * (lens tt : Nat)) d) ∧ x.1.length + cs.length + 5 * lens ts ≤ 44) ?_ ?_ _ _ ⟨0, [], h.cs, [], tt, ([], .emp, .emp, .emp, .emp, .emp), rfl, rfl, rfl, rfl, g.n.symm, rfl, rfl, by simp, by have := g.s; simp; omega⟩
  · rintro δ ⟨a, cpre, cs, tpre, ts, x, e1, e2, e3, e4, e5, e6, rfl, e8, e9⟩
    simp
    simp only [blkA]
    simp
    intro p
    refine grpA_loop (h := h) (tt := tt) (p := p) (fs := x.1) x.1 0 [] (x.2.1, x.2.2.1, x.2.2.2.1, x.2.2.2.2.1, x.2.2.2.2.2, .emp) e8 (by omega) ⟨by simp, by simp⟩ fun acc' x' i hk => ?_
    simp only [endG]
    refine ⟨rfl, x_slotS.mpr trivial, ?_⟩
    exact shared_end (h := h) (tt := tt) (p := p) (x := x') (0 + x.1.length) (by omega) i e8 (fun d hd => hk _ (.inr ⟨d, hd, rfl⟩)) fun ds h1 h2 => k ds h1 (by omega)
  · rintro ⟨c, n⟩ l δ R hR ⟨a, cpre, cs, tpre, ts, x, e1, e2, e3, e4, e5, e6, rfl, e8, e9⟩
    cases cs with
    | nil => simp at e6
    | cons c' cs =>
      cases ts with
      | nil => simp at e5
      | cons r ts =>
        simp at e6
        obtain ⟨⟨rfl, rfl⟩, rfl⟩ := e6
        have hc : h.cs[n]? = some c := by rw [e1, e3]; simp
        have hr : tt[n]? = some r := by rw [e2, e4]; simp
        have gc := gh.cg c (List.mem_of_getElem? hc)
        rw [s_shared_spans_1]
        simp
        refine l_cab_spans gh g hc hr fun ds h1 h2 => ?_
        simp
        simp only [List.length_cons, lens, List.map_cons, List.sum_cons] at e9
        obtain ⟨x', p1, p2, p3⟩ := collect (h := h) (tt := tt) (n := n) gc ds h1 x.1 e8 (by omega) x.2.2.2.1 x.2.2.2.2.1 x.2.2.2.2.2
        refine (p3 _ _ _ _ _).mpr (hR _ ⟨n + 1, cpre ++ [c], cs, tpre ++ [r], ts, (x'.1, .val (.int n), .val (cabD c), x'.2.1, x'.2.2.1, x'.2.2.2), by simp [e1], by simp [e2], by simp [e3], by simp [e4], by simpa using e5, rfl, rfl, p1, ?_⟩)
        simp only [lens]
        omega
end
end Hd

set_option Elab.async false
set_option linter.all false
set_option maxRecDepth 100000
set_option maxHeartbeats 4000000
namespace Hd
open PySem PySem.Spec PyProof.Rows L2 Dn
structure InvB (L : Int) (N : Nat) (acc : Acc) : Prop where
  l : acc.length ≤ N
  d : ∀ e ∈ acc, (∃ us, e.2 = .lst us ∧ us.length ≤ N ∧ ∀ d ∈ us, Hold4 L d) ∧ ∃ s f : Int, e.1 = [.inl s, .inl f] ∧ 0 ≤ s ∧ s < 30 ∧ 0 ≤ f ∧ f < 30
def isMeet (d : D) : Prop := d = .non ∨ ∃ s f : Int, d = .tup [.str "meet", .int s, .int f]
section
variable {Q : Cell → Prop} {E : Str → List D → Prop} {h : Hs} {tt : List (List Int)} {ms : List Int} {q : Ride}
abbrev stH (h : Hs) (tt : List (List Int)) (ms : List Int) (a : D) (x : Cell × Cell × Cell × Cell × Cell × Cell × Cell × Cell) : DEnv := [.val h.o, .val (ttD tt), .val (msD ms), .val a, x.1, x.2.1, x.2.2.1, x.2.2.2.1, x.2.2.2.2.1, x.2.2.2.2.2.1, x.2.2.2.2.2.2.1, x.2.2.2.2.2.2.2, .emp]
theorem grpB_loop {L : Int} {p : Addr} (hf5 : h.fl ≤ 6) {Qf : Acc → DEnv → Prop} : ∀ (ds : List D) (N : Nat) (acc : Acc) (x : Cell × Cell × Cell × Cell × Cell × Cell × Cell × Cell), (∀ d ∈ ds, Sp5 h.fl L d) → N + ds.length ≤ 1000 → InvB L N acc →
    (∀ acc' x', InvB L (N + ds.length) acc' → Qf acc' (stH h tt ms (.at p) x')) →
    grpB (gT 5 (gn1 (gN 4) (gn1 (gN 5) (gn1 (gN 6) (gn1 (gN 7) (gn1 (gN 8) gn0)))))) (acD (vD 5) (acD (vD 6) anD)) (tupD (acD (cD (.int 0)) (acD (vD 7) (acD (vD 8) (acD (fldD "House" "turn" (vD 0)) anD))))) 3 p Qf ds acc (stH h tt ms (.at p) x)
  | [], N, acc, x, _, _, i, k => by
    unfold grpB
    exact k acc x (by simpa using i)
  | d :: ds, N, acc, x, hd, hN, i, k => by
    obtain ⟨n, s, f, b, e, rfl, a1, a2, a3, a4, a5, a6, a7⟩ := hd d (by simp)
    unfold grpB
    have hf : few acc.length := few_le (by have := i.l; omega)
    obtain ⟨e', g1, g2, g3⟩ := ensG_spec [.inl s, .inl f] (.lst []) acc
    have g4 : ∃ us, e'.2 = .lst us ∧ us.length ≤ N ∧ ∀ d ∈ us, Hold4 L d := by
      rcases g3 with g3 | rfl
      · exact (i.d e' g3).1
      · exact ⟨[], rfl, by simp, by simp⟩
    obtain ⟨us, g5, g6, g7⟩ := g4
    have hf2 : few us.length := few_le (by simp at hN; omega)
    obtain ⟨s1, s2, s3⟩ := ensG_set (k := [.inl s, .inl f]) (new := .lst []) (d := .lst (us ++ [.tup [.int 0, .int b, e, .int h.tu]])) (acc := acc)
    have i' : InvB L (N + 1) ((ensG [.inl s, .inl f] (.lst []) acc).set (idxG [.inl s, .inl f] acc) ([.inl s, .inl f], .lst (us ++ [.tup [.int 0, .int b, e, .int h.tu]]))) := ⟨Nat.le_trans s3 (by have := i.l; omega), fun e0 he => by
      rcases s1 e0 he with he | rfl
      · obtain ⟨⟨us, q1, q2, q3⟩, q4⟩ := i.d e0 he
        exact ⟨⟨us, q1, by omega, q3⟩, q4⟩
      · refine ⟨⟨_, rfl, by simp; omega, fun d hd => ?_⟩, s, f, rfl, a1, by omega, a5, by omega⟩
        rcases List.mem_append.mp hd with hd | hd
        · exact g7 d hd
        · rw [List.mem_singleton.mp hd]
          exact ⟨_, _, _, rfl, a3, a4, a7⟩⟩
    have ih := grpB_loop (L := L) (p := p) hf5 (Qf := Qf) ds (N + 1) _ (.val (.int n), .val (.int s), .val (.int f), .val (.int b), .val e, x.2.2.2.2.2.1, x.2.2.2.2.2.2.1, x.2.2.2.2.2.2.2) (fun d hd' => hd d (by simp [hd'])) (by simp at hN; omega) i' fun acc' x' i2 => k acc' x' (by rw [List.length_cons, show N + (ds.length + 1) = N + 1 + ds.length by omega]; exact i2)
    simp [keysD, keyD, hf, innG, g1, g5, hf2]
    exact ih
theorem meet_in {L : Int} (hL : (ms.length : Int) = L) {a : D} {us : List D} (hus : ∀ d ∈ us, Hold4 L d) (hl : us.length ≤ 100) {s f : Int} (kq : ∀ d, isMeet d → Q (.val d)) {nx bk ct : DEnv → Prop} {ex : XD} (x : Cell × Cell × Cell × Cell × Cell)
    (k : ∀ x' : Cell × Cell × Cell × Cell × Cell, nx (stH h tt ms a (x'.1, .val (.int s), .val (.int f), x'.2.1, x'.2.2.1, .val (.lst us), x'.2.2.2.1, x'.2.2.2.2))) :
    forL (gT 2 (gn1 (gN 10) (gn1 (gN 11) gn0))) s_meet_fault_0 ⟨nx, fun c _ => Q c, bk, ct, ex⟩ (enumD us) (stH h tt ms a (x.1, .val (.int s), .val (.int f), x.2.1, x.2.2.1, .val (.lst us), x.2.2.2.1, x.2.2.2.2)) := by
  have e1 : enumD us = us.zipIdx.map fun p => .tup [.int (p.2 : Nat), p.1] := rfl
  rw [e1]
  refine forL_to _ (fun l δ => (∀ q ∈ l, q ∈ us.zipIdx) ∧ ∃ x' : Cell × Cell × Cell × Cell × Cell, δ = stH h tt ms a (x'.1, .val (.int s), .val (.int f), x'.2.1, x'.2.2.1, .val (.lst us), x'.2.2.2.1, x'.2.2.2.2)) ?_ ?_ _ _ ⟨fun q hq => hq, x, rfl⟩
  · rintro δ ⟨_, x', rfl⟩
    exact k x'
  · rintro ⟨d, n⟩ l δ R hR ⟨h1, x', rfl⟩
    have hd := List.mem_zipIdx (h1 _ (List.mem_cons_self ..))
    have hd1 : d ∈ us := by
      rw [hd.2.2]
      exact List.getElem_mem _
    have hn : n < us.length := by have := hd.2.1; omega
    have c1 : Dn.cutD us (some ((n : Int) + 1)) none = us.drop (n + 1) := by
      have := cut_drop (l := us) (n := n + 1)
      simpa using this
    obtain ⟨ys, y1, y2, y3⟩ := lcL_ex (gt := gN 12) (elt := callD w_meet (acD (vD 11) (acD (vD 12) (acD (vD 2) anD)))) (vs := [12]) (δ := stH h tt ms a (x'.1, .val (.int s), .val (.int f), x'.2.1, x'.2.2.1, .val (.lst us), .val (.int n), .val d)) (fun y => ∃ b : Bool, y = .bl b) (us.drop (n + 1)) [] (few_le (by simp; omega)) (fun d' hd' => by
      obtain ⟨b, hb⟩ := l_meet hL (hus d hd1) (hus d' (List.mem_of_mem_drop hd'))
      refine ⟨.bl b, ⟨b, rfl⟩, fun R => ?_⟩
      simp [hb])
    obtain ⟨bs, hbs⟩ := dBls_ex y1
    rw [s_meet_fault_0]
    simp [c1]
    rw [y3]
    simp [hbs]
    split
    · exact kq _ (.inr ⟨s, f, rfl⟩)
    · exact hR _ ⟨fun q hq => h1 q (by simp [hq]), (x'.1, x'.2.1, x'.2.2.1, .val (.int n), .val d), rfl⟩
theorem l_meet_fault (gh : GoodH h) (g : GoodT h tt) (hn : ms.length = 1 + 4 * lens tt) (kq : ∀ d, isMeet d → Q (.val d)) : w_meet_fault [h.o, ttD tt, msD ms] Q E := by
  have hL : (ms.length : Int) = 1 + 4 * (lens tt : Nat) := by omega
  rw [e_meet_fault, t_meet_fault]
  simp only [blkB]
  refine ⟨x_slotS.mpr trivial, fun p => ?_⟩
  simp
  refine l_shared_spans gh g fun ds h1 h2 => ?_
  simp
  refine grpB_loop (h := h) (tt := tt) (ms := ms) (L := 1 + 4 * (lens tt : Nat)) (p := p) gh.f1 ds 0 [] (.emp, .emp, .emp, .emp, .emp, .emp, .emp, .emp) h1 (by omega) ⟨by simp, by simp⟩ fun acc x i => ?_
  have il : acc.length < 64 := by have := i.l; omega
  simp only [endG]
  refine ⟨rfl, x_slotS.mpr trivial, ?_⟩
  simp
  refine ⟨by simpa using il, ⟨30, ?_⟩, fun ks' hp => ?_⟩
  · intro k hk
    obtain ⟨e, he, rfl⟩ := List.mem_map.mp hk
    obtain ⟨_, s, f, e1, e2⟩ := i.d e he
    exact ⟨s, f, e1, e2⟩
  · refine forL_to _ (fun l δ => (∀ k ∈ l, k ∈ acc.map (·.1)) ∧ ∃ x', δ = stH h tt ms (.dct (acc.map (·.1)) (acc.map (·.2))) x') ?_ ?_ _ _ ⟨fun k hk => hp.mem_iff.mp hk, x, rfl⟩
    · rintro δ ⟨_, x', rfl⟩
      simp
      exact kq _ (.inl rfl)
    · rintro k l δ R hR ⟨h3, x', rfl⟩
      have hk := h3 k (by simp)
      obtain ⟨e, he, ek, hl⟩ := lookD_of hk
      obtain ⟨⟨us, u1, u2, u3⟩, s, f, e1, e2⟩ := i.d e he
      rw [ek] at e1
      subst e1
      rw [s_meet_fault_1]
      simp [kTupD, keyK, getTD, keysD, keyD, hl, u1]
      exact meet_in hL u3 (by omega) kq (x'.1, x'.2.2.2.1, x'.2.2.2.2.1, x'.2.2.2.2.2.2.1, x'.2.2.2.2.2.2.2) fun y => hR _ ⟨fun k hk => h3 k (by simp [hk]), _, rfl⟩
theorem l_fault (gh : GoodH h) (g : GoodT h tt) (m : GoodM tt ms) (kq : ∀ d, (match cf h tt ms with | some d' => d = d' | none => isMeet d) → Q (.val d)) : w_fault [h.o, ttD tt, .tup [], msD ms] Q E := by
  rw [e_fault, t_fault]
  cases hcf : cf h tt ms with
  | some d =>
    rw [hcf] at kq
    have hd : isNon d = false := by
      obtain ⟨q, _, hq⟩ := List.exists_of_findSome?_eq_some hcf
      unfold ff at hq
      cases hw : fw h ms q with
      | none => rw [hw] at hq; cases hq
      | some w => rw [hw] at hq; cases hq; rfl
    simp [l_check_riders gh g, l_check_all_moments gh g m, l_cab_fault gh g m.n, hcf, x_forn, hd]
    exact kq d rfl
  | none =>
    rw [hcf] at kq
    simp [l_check_riders gh g, l_check_all_moments gh g m, l_cab_fault gh g m.n, hcf, x_forn]
    exact l_meet_fault gh g m.n fun d hd => by simpa using kq d hd
end
end Hd

set_option Elab.async false
set_option linter.all false
set_option maxRecDepth 100000
set_option maxHeartbeats 4000000
set_option exponentiation.threshold 300
namespace Hd
open PySem PySem.Spec PyProof.Rows L2 Dn
/-- a number of the script's: below 2 ** (2 ** 20) -/
def Big (i : Int) : Prop := 0 ≤ i ∧ bits i
structure HandOk (n : Nat) (hs : List D) : Prop where
  ex : ∃ (cells : List Int) (i left mix cnt : Int), hs = [.lst (cells.map D.int), .int i, .int left, .int mix, .int cnt] ∧ cells.length ≤ 63 ∧ (∀ c ∈ cells, Big c) ∧ 0 ≤ i ∧ Big left ∧ 0 ≤ mix ∧ mix ≤ 2147483629 ∧ 0 ≤ cnt ∧ cnt ≤ n
theorem bits_mid {i : Int} (h : i.natAbs ≤ 4611686018427387904) : bits i := Nat.lt_of_le_of_lt h (Nat.lt_of_lt_of_le (by decide : 4611686018427387904 < 2 ^ 64) (Nat.pow_le_pow_right (by decide) (by decide)))
theorem mul_mid {i j : Int} (h : i.natAbs ≤ 4611686018427387904) (h' : j.natAbs ≤ 4611686018427387904) : mulOk i j := ⟨bits_mid h, bits_mid h'⟩
theorem big_div {i j : Int} (h : Big i) (hj : 0 < j) : Big (i / j) := by
  have h1 := Int.ediv_nonneg h.1 (Int.le_of_lt hj)
  have h2 := Int.ediv_le_self j h.1
  exact ⟨h1, Nat.lt_of_le_of_lt (by omega) h.2⟩
section
variable {Q : List D → Cell → Prop} {hs : List D} {n : Nat}
theorem HandOk.mono {m : Nat} (o : HandOk n hs) (l : n ≤ m) : HandOk m hs := by
  obtain ⟨a, b, c, d, e, h1, h2, h3, h4, h5, h6, h7, h8, h9⟩ := o.ex
  exact ⟨a, b, c, d, e, h1, h2, h3, h4, h5, h6, h7, h8, by omega⟩
theorem mixT {mix cnt many : Int} {P : Int → Prop} (c0 : 0 ≤ cnt) (c1 : cnt ≤ 100000) (m0 : 0 ≤ mix) (m1 : mix ≤ 2147483629) (h0 : 0 < many) (k : ∀ r, 0 ≤ r → r < many → P r) :
    mulOk 7919 (cnt + 1) ∧ mulOk (mix + 7919 * (cnt + 1)) 48271 ∧ mulOk ((mix + 7919 * (cnt + 1)) * 48271 % 2147483647) ((mix + 7919 * (cnt + 1)) * 48271 % 2147483647 / 1009 + 69621) ∧
      mulOk ((mix + 7919 * (cnt + 1)) * 48271 % 2147483647 * ((mix + 7919 * (cnt + 1)) * 48271 % 2147483647 / 1009 + 69621) % 2147483647) ((mix + 7919 * (cnt + 1)) * 48271 % 2147483647 * ((mix + 7919 * (cnt + 1)) * 48271 % 2147483647 / 1009 + 69621) % 2147483647 / 2003 + 40014) ∧ 0 < many ∧
      P ((mix + 7919 * (cnt + 1)) * 48271 % 2147483647 * ((mix + 7919 * (cnt + 1)) * 48271 % 2147483647 / 1009 + 69621) % 2147483647 * ((mix + 7919 * (cnt + 1)) * 48271 % 2147483647 * ((mix + 7919 * (cnt + 1)) * 48271 % 2147483647 / 1009 + 69621) % 2147483647 / 2003 + 40014) % 2147483563 / 16 % many) := by
  refine ⟨mul_mid (by decide) (by omega), mul_mid (by omega) (by decide), ?_⟩
  have p0 : 0 ≤ (mix + 7919 * (cnt + 1)) * 48271 % 2147483647 := Int.emod_nonneg _ (by decide)
  have p1 : (mix + 7919 * (cnt + 1)) * 48271 % 2147483647 < 2147483647 := Int.emod_lt_of_pos _ (by decide)
  generalize (mix + 7919 * (cnt + 1)) * 48271 % 2147483647 = A at p0 p1
  refine ⟨mul_mid (by omega) (by omega), ?_⟩
  have q0 : 0 ≤ A * (A / 1009 + 69621) % 2147483647 := Int.emod_nonneg _ (by decide)
  have q1 : A * (A / 1009 + 69621) % 2147483647 < 2147483647 := Int.emod_lt_of_pos _ (by decide)
  generalize A * (A / 1009 + 69621) % 2147483647 = B at q0 q1
  exact ⟨mul_mid (by omega) (by omega), h0, k _ (Int.emod_nonneg _ (by omega)) (Int.emod_lt_of_pos _ h0)⟩
theorem l_draw {many : Int} (o : HandOk n hs) (h0 : 0 < many) (h1 : many < 1073741824) (hn : n ≤ 100000) (k : ∀ r hs', 0 ≤ r → r < many → HandOk (n + 1) hs' → Q hs' (.val (.int r))) : w_law_draw hs [.int many] Q := by
  obtain ⟨cells, i, left, mix, cnt, rfl, a1, a2, a3, a4, a5, a6, a7, a8⟩ := o.ex
  have dig : ∀ (cells : List Int) (i left mix : Int), cells.length ≤ 63 → (∀ c ∈ cells, Big c) → 0 ≤ i → Big left → 0 ≤ mix → mix ≤ 2147483629 → 0 < many ∧ (0 < many ∧ many < 1073741824) ∧ Q [.lst (cells.map D.int), .int i, .int (left / many), .int mix, .int cnt] (.val (.int (left % many))) := fun cells i left mix b1 b2 b3 b4 b5 b6 =>
    ⟨h0, ⟨h0, h1⟩, k _ _ (Int.emod_nonneg _ (by omega)) (Int.emod_lt_of_pos _ h0) ⟨⟨cells, i, _, mix, cnt, rfl, b1, b2, b3, big_div b4 h0, b5, b6, a7, by omega⟩⟩⟩
  have mixd : ∀ (cells : List Int) (i left mix : Int), cells.length ≤ 63 → (∀ c ∈ cells, Big c) → 0 ≤ i → Big left → 0 ≤ mix → mix ≤ 2147483629 → ∀ r, 0 ≤ r → r < many → Q [.lst (cells.map D.int), .int i, .int left, .int mix, .int (cnt + 1)] (.val (.int r)) := fun cells i left mix b1 b2 b3 b4 b5 b6 r r0 r1 =>
    k _ _ r0 r1 ⟨⟨cells, i, left, mix, _, rfl, b1, b2, b3, b4, b5, b6, by omega, by omega⟩⟩
  rw [e_law_draw, t_law_draw]
  simp
  by_cases c1 : left = 0
  · rw [if_pos c1]
    by_cases c2 : i < cells.length
    · rw [if_pos c2]
      have hat := atI_intF (l := cells) a3 c2
      have hc : Big (cells.getD i.toNat 0) := by
        have hl : i.toNat < cells.length := by omega
        rw [List.getD_eq_getElem?_getD, List.getElem?_eq_getElem hl]
        exact a2 _ (List.getElem_mem hl)
      rw [hat]
      generalize cells.getD i.toNat 0 = c at hc
      have m1 : mulOk mix 69621 := mul_mid (by omega) (by decide)
      have m2 : mulOk c 40692 := ⟨hc.2, bits_mid (by decide)⟩
      have n0 : 0 ≤ (mix * 69621 + c * 40692 + 31) % 2147483629 := Int.emod_nonneg _ (by decide)
      have n1 : (mix * 69621 + c * 40692 + 31) % 2147483629 ≤ 2147483629 := by
        have := Int.emod_lt_of_pos (mix * 69621 + c * 40692 + 31) (by decide : (0 : Int) < 2147483629)
        omega
      simp [m1, m2]
      generalize (mix * 69621 + c * 40692 + 31) % 2147483629 = mix' at n0 n1
      have l1 : Big left := by rw [c1]; exact ⟨Int.le_refl _, bits_mid (by decide)⟩
      split
      · rw [if_pos (by omega)]
        exact dig cells (i + 1) c mix' a1 a2 (by omega) hc n0 n1
      · rw [if_neg (by omega)]
        exact mixT a7 (by omega) n0 n1 h0 (mixd cells (i + 1) left mix' a1 a2 (by omega) l1 n0 n1)
    · rw [if_neg c2, if_neg (by omega)]
      exact mixT a7 (by omega) a5 a6 h0 (mixd cells i left mix a1 a2 a3 a4 a5 a6)
  · rw [if_neg c1]
    split
    · exact dig cells i left mix a1 a2 a3 a4 a5 a6
    · exact mixT a7 (by omega) a5 a6 h0 (mixd cells i left mix a1 a2 a3 a4 a5 a6)
end
end Hd

set_option Elab.async false
set_option linter.all false
set_option maxRecDepth 100000
set_option maxHeartbeats 4000000
namespace Hd
open PySem PySem.Spec PyProof.Rows L2 Dn
section
variable {Q : List D → Cell → Prop} {hs : List D} {n : Nat}
theorem any_end {ds : List D} (hl : 0 < ds.length) {r : Int} (h0 : 0 ≤ r) (h1 : r < ds.length) : ∃ d ∈ ds, atI ds r = some d := by
  obtain ⟨m, rfl⟩ := Int.eq_ofNat_of_zero_le h0
  have hm : m < ds.length := by omega
  exact ⟨ds[m], List.getElem_mem hm, by rw [Dn.atI_nat, List.getElem?_eq_getElem hm]⟩
theorem l_anyL {ds : List D} (o : HandOk n hs) (hl : 0 < ds.length) (hl2 : ds.length ≤ 10000) (hn : n ≤ 100000) (k : ∀ d ∈ ds, ∀ hs', HandOk (n + 1) hs' → Q hs' (.val d)) : w_law_any hs [.lst ds] Q := by
  rw [e_law_any, t_law_any]
  simp
  refine callK_of <| l_draw o (by omega) (by omega) hn fun r hs' h0 h1 o' => ?_
  obtain ⟨d, hd, e⟩ := any_end hl h0 h1
  simp [e]
  exact k d hd hs' o'
theorem l_anyT {ds : List D} (o : HandOk n hs) (hl : 0 < ds.length) (hl2 : ds.length ≤ 10000) (hn : n ≤ 100000) (k : ∀ d ∈ ds, ∀ hs', HandOk (n + 1) hs' → Q hs' (.val d)) : w_law_any hs [.tup ds] Q := by
  rw [e_law_any, t_law_any]
  simp
  refine callK_of <| l_draw o (by omega) (by omega) hn fun r hs' h0 h1 o' => ?_
  obtain ⟨d, hd, e⟩ := any_end hl h0 h1
  simp [e]
  exact k d hd hs' o'
theorem anyI {l : List Int} (o : HandOk n hs) (hl : 0 < l.length) (hl2 : l.length ≤ 10000) (hn : n ≤ 100000) (k : ∀ i ∈ l, ∀ hs', HandOk (n + 1) hs' → Q hs' (.val (.int i))) : w_law_any hs [.lst (l.map D.int)] Q := by
  refine l_anyL o (by simpa using hl) (by simpa using hl2) hn fun d hd hs' o' => ?_
  obtain ⟨i, hi, rfl⟩ := List.mem_map.mp hd
  exact k i hi hs' o'
/- the house -/
abbrev stD (many fl r0 r2 : Int) (ri do_ : D) (sh : Int) (hs : List D) (cs : List Cab) (x : Cell × Cell × Cell) : DEnv := [.own (.lst hs), .val (.int many), .val (.int fl), .val (.int r0), .val (.int r2), .val ri, .val (.int sh), .val do_, .own (.lst (cs.map cabD)), .own (.lst (cs.map fun c => D.tup [.int c.2.1, .int c.2.2])), x.1, x.2.1, x.2.2]
structure CabsOk (fl : Int) (i : Nat) (cs : List Cab) : Prop where
  n0 : 0 < i → cs ≠ []
  l : cs.length ≤ i
  g : ∀ c ∈ cs, GoodCab fl c ∧ ∃ j, j < i ∧ names4[j]? = some c.1
  n : (cs.map (·.1)).Nodup
  p : (cs.map (·.2)).Nodup
theorem nodup_snoc {α : Type} {l : List α} {a : α} (h : l.Nodup) (n : a ∉ l) : (l ++ [a]).Nodup := by
  rw [List.nodup_append]
  exact ⟨h, by simp, fun x hx y hy e => n (by rw [List.mem_singleton.mp hy] at e; rw [← e]; exact hx)⟩
theorem CabsOk.skip {fl : Int} {i : Nat} {cs : List Cab} (o : CabsOk fl i cs) (h : cs ≠ []) : CabsOk fl (i + 1) cs := ⟨fun _ => h, by have := o.l; omega, fun c hc => ⟨(o.g c hc).1, by
  obtain ⟨j, h1, h2⟩ := (o.g c hc).2
  exact ⟨j, by omega, h2⟩⟩, o.n, o.p⟩
theorem CabsOk.add {fl : Int} {i : Nat} {cs : List Cab} (o : CabsOk fl i cs) {x : Str} {s p : Int} (hx : names4[i]? = some x) (gc : GoodCab fl (x, s, p)) (hp : (s, p) ∉ cs.map (·.2)) : CabsOk fl (i + 1) (cs ++ [(x, s, p)]) := by
  refine ⟨fun _ => by simp, by have := o.l; simp; omega, fun c hc => ?_, ?_, ?_⟩
  · rcases List.mem_append.mp hc with hc | hc
    · obtain ⟨a, j, h1, h2⟩ := o.g c hc
      exact ⟨a, j, by omega, h2⟩
    · rw [List.mem_singleton.mp hc]
      exact ⟨gc, i, by omega, hx⟩
  · rw [List.map_append]
    refine nodup_snoc o.n fun hm => ?_
    obtain ⟨c, hc, e⟩ := List.mem_map.mp hm
    obtain ⟨_, j, h1, h2⟩ := o.g c hc
    have : names4[j]? = names4[i]? := by rw [h2, hx, e]
    have hi := (List.getElem?_eq_some_iff.mp hx).1
    have := (List.getElem?_inj (by omega) (by decide +kernel : names4.Nodup)).mp this
    omega
  · rw [List.map_append]
    exact nodup_snoc o.p hp
theorem names_at {i : Nat} (hi : i < 4) : ∃ x, names4[i]? = some x ∧ x ∈ names4 ∧ atI [D.str "ann", D.str "bob", D.str "z", D.str "abcdefgh"] (i : Int) = some (.str x) := by
  match i, hi with
  | 0, _ => exact ⟨_, rfl, by simp, rfl⟩
  | 1, _ => exact ⟨_, rfl, by simp, rfl⟩
  | 2, _ => exact ⟨_, rfl, by simp, rfl⟩
  | 3, _ => exact ⟨_, rfl, by simp, rfl⟩
theorem house_loop {many fl r0 r2 sh : Int} {ri do_ : D} (f0 : 2 ≤ fl) (f1 : fl ≤ 6) {nx : DEnv → Prop} {bk ct : DEnv → Prop} {rt : Cell → DEnv → Prop} {ex : XD} (N : Nat) (hN : N ≤ 4) (hn : n ≤ 60000) (o : HandOk n hs) (x : Cell × Cell × Cell)
    (k : ∀ hs' cs x', HandOk (n + 2 * N) hs' → CabsOk fl N cs → nx (stD many fl r0 r2 ri do_ sh hs' cs x')) :
    forL (gN 10) s_law_house_0 ⟨nx, rt, bk, ct, ex⟩ (rngD 0 N) (stD many fl r0 r2 ri do_ sh hs [] x) := by
  unfold rngD
  rw [List.range_eq_range']
  refine forL_to (fun i : Nat => D.int (0 + (i : Nat))) (fun l δ => ∃ (i m : Nat) (hs' : List D) (cs : List Cab) (x' : Cell × Cell × Cell), l = List.range' i m ∧ i + m = N ∧ δ = stD many fl r0 r2 ri do_ sh hs' cs x' ∧ HandOk (n + 2 * i) hs' ∧ CabsOk fl i cs) ?_ ?_ _ _ ⟨0, N, hs, [], x, rfl, by omega, rfl, o, ⟨by simp, by simp, by simp, by simp, by simp⟩⟩
  · rintro δ ⟨i, m, hs', cs, x', e1, e2, rfl, o', c⟩
    have : m = 0 := by
      cases m with
      | zero => rfl
      | succ m => simp [List.range'_succ] at e1
    have : i = N := by omega
    subst this
    exact k hs' cs x' o' c
  · rintro i l δ R hR ⟨i', m, hs', cs, x', e1, e2, rfl, o', c⟩
    cases m with
    | zero => simp at e1
    | succ m =>
      simp [List.range'_succ] at e1
      obtain ⟨rfl, rfl⟩ := e1
      rw [s_law_house_0]
      simp
      have z := fun Q' => anyI (Q := Q') (l := [0, 0, 1, 9]) o' (by decide) (by decide) (by omega)
      simp only [List.map_cons, List.map_nil] at z
      refine callK_of <| z _ fun s hs2 hs3 o2 => ?_
      simp
      refine callK_of <| l_draw o2 (by omega) (by omega) (by omega) fun p hs4 p0 p1 o3 => ?_
      have hi : i < 4 := by omega
      obtain ⟨nm, nm1, nm2, nm3⟩ := names_at hi
      have hcl := c.l
      have hfew : few cs.length := few_le (by omega)
      have hs9 : 0 ≤ s ∧ s ≤ 9 := by
        simp at hs2
        omega
      by_cases hp : (s, p) ∈ cs.map (·.2)
      · have hne : cs ≠ [] := fun e => by rw [e] at hp; simp at hp
        have hz := hR _ ⟨i + 1, m, hs4, cs, (.val (.int i), .val (.int s), .val (.int p)), rfl, by omega, rfl, o3.mono (by omega), c.skip hne⟩
        simp [hp]
        exact hz
      · have hz := hR _ ⟨i + 1, m, hs4, cs ++ [(nm, s, p)], (.val (.int i), .val (.int s), .val (.int p)), rfl, by omega, rfl, o3.mono (by omega), c.add nm1 ⟨nm2, hs9.1, hs9.2, p0, p1⟩ hp⟩
        simp at hp
        simp [nm3, hfew, hp]
        simpa [stD] using hz
theorem l_law_house {many : Int} (o : HandOk n hs) (h0 : 1 ≤ many) (h1 : many ≤ 4) (hn : n ≤ 50000) (k : ∀ (h : Hs) (hs' : List D), GoodH h → HandOk (n + 18) hs' → Q hs' (.val h.t)) : w_law_house hs [.int many] Q := by
  rw [e_law_house, t_law_house]
  simp
  refine callK_of <| l_draw o (by omega) (by omega) (by omega) fun fl h1 fl0 fl1 o1 => ?_
  simp
  refine callK_of <| l_draw o1 (by omega) (by omega) (by omega) fun r0 h2 r00 r01 o2 => ?_
  simp
  refine callK_of <| l_draw o2 (by omega) (by omega) (by omega) fun r2 h3 r20 r21 o3 => ?_
  simp
  refine callK_of <| l_draw o3 (by omega) (by omega) (by omega) fun r1 h4 r10 r11 o4 => ?_
  simp
  refine callK_of <| l_draw o4 (by omega) (by omega) (by omega) fun r3 h5 r30 r31 o5 => ?_
  simp
  refine callK_of <| l_draw o5 (by omega) (by omega) (by omega) fun d0 h6 d00 d01 o6 => ?_
  simp
  refine callK_of <| l_draw o6 (by omega) (by omega) (by omega) fun d1 h7 d10 d11 o7 => ?_
  simp
  have z := fun Q' => anyI (Q := Q') (l := [0, 0, 1, 3]) o7 (by decide) (by decide) (by omega)
  simp only [List.map_cons, List.map_nil] at z
  refine callK_of <| z _ fun d2 d2m h8 o8 => ?_
  simp
  refine callK_of <| l_draw o8 (by omega) (by omega) (by omega) fun m h9 m0 m1 o9 => ?_
  simp
  have d2b : 0 ≤ d2 ∧ d2 ≤ 3 := by
    simp at d2m
    omega
  refine ⟨⟨by omega, by omega⟩, ?_⟩
  refine house_loop (n := n + 9) (many := many) (fl := 2 + fl) (r0 := r0) (r2 := 1 + r2) (ri := .tup [.int r0, .int (r0 + r1), .int (1 + r2), .int (1 + r2 + r3)]) (sh := 1 + d0) (do_ := .tup [.int (1 + d0), .int (1 + d0 + d1), .int d2]) (by omega) (by omega) (1 + m).toNat (by omega) (by omega) (o9.mono (by omega)) (.emp, .emp, .emp) fun hs' cs x' oL cg => ?_
  simp
  have z2 := fun Q' => anyI (Q := Q') (l := [0, 0, 1, 2, 4]) oL (by decide) (by decide) (by omega)
  simp only [List.map_cons, List.map_nil] at z2
  refine callK_of <| z2 _ fun tu tum hT oT => ?_
  have tub : 0 ≤ tu ∧ tu ≤ 4 := by
    simp at tum
    omega
  simp
  refine ⟨few_le (by have := cg.l; omega), ?_⟩
  have gc := cg.g
  exact k ⟨2 + fl, r0, r0 + r1, 1 + r2, 1 + r2 + r3, 1 + d0, 1 + d0 + d1, d2, tu, cs⟩ hT ⟨by simp; omega, by simp; omega, by simp; omega, by simp; omega, by simp; omega, by simp; omega, by simp; omega, by simp; omega, by simp; omega, by simp; omega, by simp; omega, by simp; omega, by simp; omega, by simp; omega, by simp; omega, cg.n0 (by omega), by have := cg.l; simp; omega, fun c hc => (gc c hc).1, cg.n, cg.p⟩ (oT.mono (by omega))
end
end Hd

set_option Elab.async false
set_option linter.all false
set_option maxRecDepth 100000
set_option maxHeartbeats 4000000
namespace Hd
open PySem PySem.Spec PyProof.Rows L2 Dn
def lastOf : Int → List Int → Int
  | p, [] => p
  | _, x :: r => lastOf x r
theorem lastOf_snoc : ∀ {r : List Int} {p x : Int}, lastOf p (r ++ [x]) = x
  | [], p, x => rfl
  | y :: r, p, x => lastOf_snoc (r := r)
theorem zip_snoc {f : Int × Int → Bool} : ∀ {r : List Int} {p x : Int}, ((p :: (r ++ [x])).zip (r ++ [x])).all f = (((p :: r).zip r).all f && f (lastOf p r, x))
  | [], p, x => by simp [lastOf]
  | y :: r, p, x => by
    have ih := zip_snoc (f := f) (r := r) (p := y) (x := x)
    simp only [List.cons_append, List.zip_cons_cons, List.all_cons, lastOf] at ih ⊢
    rw [ih, Bool.and_assoc]
theorem GoodRow.snoc {fl p x : Int} {r : List Int} (g : GoodRow fl p r) (hx : 0 ≤ x ∧ x < fl) (hn : lastOf p r ≠ x) : GoodRow fl p (r ++ [x]) := by
  refine ⟨fun y hy => ?_, ?_⟩
  · rcases List.mem_append.mp hy with hy | hy
    · exact g.f y hy
    · rw [List.mem_singleton.mp hy]
      exact hx
  · rw [zip_snoc, g.c]
    simpa using hn
theorem next_place {fl p d : Int} (f0 : 2 ≤ fl) (f1 : fl ≤ 6) (p0 : 0 ≤ p) (p1 : p < fl) (d0 : 0 ≤ d) (d1 : d < fl - 1) : 0 ≤ (p + 1 + d) % fl ∧ (p + 1 + d) % fl < fl ∧ p ≠ (p + 1 + d) % fl := by
  have h : fl = 2 ∨ fl = 3 ∨ fl = 4 ∨ fl = 5 ∨ fl = 6 := by omega
  rcases h with rfl | rfl | rfl | rfl | rfl <;> omega
section
variable {Q : List D → Cell → Prop} {hs : List D} {n : Nat} {h : Hs} {tt : List (List Int)} {ms : List Int}
abbrev stT (h : Hs) (most : Int) (hs : List D) (tt : List (List Int)) (left : Int) (x : Cell × Cell × Cell × Cell × Cell) : DEnv := [.own (.lst hs), .val h.t, .val (.int most), .own (.lst (tt.map rowD)), .val (.int left), x.1, x.2.1, x.2.2.1, x.2.2.2.1, x.2.2.2.2]
theorem row_loop (gh : GoodH h) {most left : Int} {c : Cab} (gc : GoodCab h.fl c) {nx bk ct : DEnv → Prop} {rt : Cell → DEnv → Prop} {ex : XD} (N : Nat) (hN : N ≤ 3) (hn : n ≤ 60000) (o : HandOk n hs) (c9 : Cell)
    (k : ∀ hs' r p' c9', HandOk (n + N) hs' → r.length = N → GoodRow h.fl c.2.2 r → nx (stT h most hs' tt left (.val (.str c.1), .val (.int c.2.1), .val (.int p'), .own (.lst (r.map D.int)), c9'))) :
    forL (gN 9) s_law_timetable_0 ⟨nx, rt, bk, ct, ex⟩ (rngD 0 N) (stT h most hs tt left (.val (.str c.1), .val (.int c.2.1), .val (.int c.2.2), .own (.lst []), c9)) := by
  have f0 := gh.f0; have f1 := gh.f1
  unfold rngD
  rw [List.range_eq_range']
  refine forL_to (fun i : Nat => D.int (0 + (i : Nat))) (fun l δ => ∃ (i m : Nat) (hs' : List D) (r : List Int) (c9' : Cell), l = List.range' i m ∧ i + m = N ∧ δ = stT h most hs' tt left (.val (.str c.1), .val (.int c.2.1), .val (.int (lastOf c.2.2 r)), .own (.lst (r.map D.int)), c9') ∧ HandOk (n + i) hs' ∧ r.length = i ∧ GoodRow h.fl c.2.2 r ∧ 0 ≤ lastOf c.2.2 r ∧ lastOf c.2.2 r < h.fl) ?_ ?_ _ _ ⟨0, N, hs, [], c9, rfl, by omega, rfl, o, rfl, ⟨by simp, by simp⟩, gc.p0, gc.p1⟩
  · rintro δ ⟨i, m, hs', r, c9', e1, e2, rfl, o', hl, gr, l0, l1⟩
    have : m = 0 := by
      cases m with
      | zero => rfl
      | succ m => simp [List.range'_succ] at e1
    have : i = N := by omega
    subst this
    exact k hs' r _ c9' o' hl gr
  · rintro i l δ R hR ⟨i', m, hs', r, c9', e1, e2, rfl, o', hl, gr, l0, l1⟩
    cases m with
    | zero => simp at e1
    | succ m =>
      simp [List.range'_succ] at e1
      obtain ⟨rfl, rfl⟩ := e1
      rw [s_law_timetable_0]
      simp
      refine callK_of <| l_draw o' (by omega) (by omega) (by omega) fun d hs2 d0 d1 o2 => ?_
      have np := next_place f0 f1 l0 l1 d0 d1
      have hfew : few r.length := few_le (by omega)
      have hz := hR _ ⟨i + 1, m, hs2, r ++ [(lastOf c.2.2 r + 1 + d) % h.fl], .val (.int i), rfl, by omega, rfl, o2, by simp [hl], gr.snoc ⟨np.1, np.2.1⟩ np.2.2, by rw [lastOf_snoc]; exact np.1, by rw [lastOf_snoc]; exact np.2.1⟩
      rw [lastOf_snoc] at hz
      simp [hfew]
      exact ⟨by omega, by simpa [stT] using hz⟩
theorem l_law_timetable (gh : GoodH h) {most : Int} (o : HandOk n hs) (h0 : 0 ≤ most) (h1 : most ≤ 8) (hn : n ≤ 50000) (k : ∀ (tt : List (List Int)) (hs' : List D), GoodT h tt → HandOk (n + 16) hs' → Q hs' (.val (ttD tt))) : w_law_timetable hs [h.t, .int most] Q := by
  have hc1 := gh.c1
  rw [e_law_timetable, t_law_timetable]
  simp
  refine forL_to cabD (fun l δ => ∃ (pre : List Cab) (tt : List (List Int)) (hs' : List D) (left : Int) (x : Cell × Cell × Cell × Cell × Cell), h.cs = pre ++ l ∧ tt.length = pre.length ∧ (∀ q ∈ pre.zip tt, GoodRow h.fl q.1.2.2 q.2) ∧ left + (lens tt : Nat) = most ∧ 0 ≤ left ∧ δ = stT h most hs' tt left x ∧ HandOk (n + 4 * pre.length) hs') ?_ ?_ _ _ ⟨[], [], hs, most, (.emp, .emp, .emp, .emp, .emp), rfl, rfl, by simp, by simp [lens], h0, rfl, o⟩
  · rintro δ ⟨pre, tt, hs', left, x, e1, e2, e3, e4, e5, rfl, o'⟩
    simp at e1
    simp
    refine ⟨few_le (by rw [e2, ← e1]; omega), k tt hs' ⟨by rw [e2, e1], by rw [e1]; exact e3, by omega⟩ (o'.mono (by rw [← e1]; omega))⟩
  · rintro c l δ R hR ⟨pre, tt, hs', left, x, e1, e2, e3, e4, e5, rfl, o'⟩
    have hpl : pre.length < 4 := by rw [e1] at hc1; simp at hc1; omega
    have gc := gh.cg c (by rw [e1]; simp)
    rw [s_law_timetable_1]
    simp
    refine callK_of <| l_draw o' (by omega) (by omega) (by omega) fun d hs2 d0 d1 o2 => ?_
    simp
    refine ⟨⟨by split <;> omega, by split <;> omega⟩, ?_⟩
    refine row_loop (most := most) (tt := tt) (left := left) gh gc (if d < left then d else left).toNat (by split <;> omega) (by omega) o2 _ fun hs3 r p' c9' o3 hl gr => ?_
    have hfew : few tt.length := few_le (by omega)
    have hfew2 : few r.length := few_le (by rw [hl]; split <;> omega)
    have hrl : (r.length : Int) ≤ left ∧ r.length ≤ 3 := by rw [hl]; split <;> omega
    have hz := hR _ ⟨pre ++ [c], tt ++ [r], hs3, left - r.length, (.val (.str c.1), .val (.int c.2.1), .val (.int p'), .own (.lst (r.map D.int)), c9'), by simp [e1], by simp [e2], fun q hq => ?_, ?_, by omega, rfl, o3.mono (by simp; omega)⟩
    · simp [hfew, hfew2]
      simpa [stT] using hz
    · rw [List.zip_append e2.symm] at hq
      rcases List.mem_append.mp hq with hq | hq
      · exact e3 q hq
      · simp at hq
        rw [hq]
        exact gr
    · simp [lens] at e4 ⊢
      omega
end
end Hd

set_option Elab.async false
set_option linter.all false
set_option maxRecDepth 100000
set_option maxHeartbeats 4000000
namespace Hd
open PySem PySem.Spec PyProof.Rows L2 Dn
theorem mem_bd {w lo hi : Int} {l : List Int} (hm : w ∈ l) (h : (l.all fun x => decide (lo ≤ x) && decide (x ≤ hi)) = true) : lo ≤ w ∧ w ≤ hi := by
  have := List.all_eq_true.mp h w hm
  simpa using this
abbrev C7 := Cell × Cell × Cell × Cell × Cell × Cell × Cell
section
variable {Q : List D → Cell → Prop} {hs : List D} {n : Nat} {h : Hs} {tt : List (List Int)} {ms : List Int}
abbrev stM (h : Hs) (tt : List (List Int)) (hs : List D) (ms : List Int) (b ap : Int) (c6 c7 : Cell) (p t : Cell) (x : Cell × Cell × Cell × Cell × Cell × Cell) : DEnv := [.own (.lst hs), .val h.t, .val (ttD tt), .val (.lst (ms.map D.int)), .val (.int b), .val (.int ap), c6, c7, p, t, x.1, x.2.1, x.2.2.1, x.2.2.2.1, x.2.2.2.2.1, x.2.2.2.2.2]
theorem m_in (gh : GoodH h) {b ap t0 p0 : Int} {c6 c7 : Cell} {row : List Int} (hrow : ∀ x ∈ row, 0 ≤ x ∧ x < h.fl) (hp : 0 ≤ p0 ∧ p0 < h.fl) (hl : row.length ≤ 8) (hml : ms.length ≤ 100) (hms : ∀ m ∈ ms, 0 ≤ m ∧ m ≤ 1000) (ht : 0 ≤ t0 ∧ t0 + 38 * (row.length : Nat) ≤ 1000) (hn : n ≤ 60000) (o : HandOk n hs)
    {nx bk ct : DEnv → Prop} {rt : Cell → DEnv → Prop} {ex : XD} (x : Cell × Cell × Cell × Cell × Cell × Cell)
    (k : ∀ hs' ms' p' t' x', HandOk (n + 4 * row.length) hs' → ms'.length = ms.length + 4 * row.length → (∀ m ∈ ms', 0 ≤ m ∧ m ≤ 1000) → (ms ≠ [] → ms'[0]? = ms[0]?) → 0 ≤ t' → t' ≤ t0 + 38 * (row.length : Nat) → nx (stM h tt hs' ms' b ap c6 c7 p' (.val (.int t')) x')) :
    forL (gN 10) s_law_moments_0 ⟨nx, rt, bk, ct, ex⟩ (row.map D.int) (stM h tt hs ms b ap c6 c7 (.val (.int p0)) (.val (.int t0)) x) := by
  have f0 := gh.f0; have f1 := gh.f1
  have a1 := gh.r0; have a2 := gh.r1; have a3 := gh.r1b; have a4 := gh.r2; have a5 := gh.r3; have a6 := gh.r3b
  have b1 := gh.d0; have b2 := gh.d1; have b3 := gh.d1b
  refine forL_to D.int (fun l δ => ∃ (pre : List Int) (hs' : List D) (ms' : List Int) (p t : Int) (x' : Cell × Cell × Cell × Cell × Cell × Cell), row = pre ++ l ∧ δ = stM h tt hs' ms' b ap c6 c7 (.val (.int p)) (.val (.int t)) x' ∧ HandOk (n + 4 * pre.length) hs' ∧ ms'.length = ms.length + 4 * pre.length ∧ (∀ m ∈ ms', 0 ≤ m ∧ m ≤ 1000) ∧ (ms ≠ [] → ms'[0]? = ms[0]?) ∧ 0 ≤ t ∧ t ≤ t0 + 38 * (pre.length : Nat) ∧ 0 ≤ p ∧ p < h.fl) ?_ ?_ _ _ ⟨[], hs, ms, p0, t0, x, rfl, rfl, o, by simp, hms, fun _ => rfl, ht.1, by simp, hp.1, hp.2⟩
  · rintro δ ⟨pre, hs', ms', p, t, x', e1, rfl, o', e2, e3, e4, e5, e6, _⟩
    simp at e1
    subst e1
    exact k hs' ms' _ t x' o' e2 e3 e4 e5 e6
  · rintro g l δ R hR ⟨pre, hs', ms', p, t, x', e1, rfl, o', e2, e3, e4, e5, e6, p0, p1⟩
    have hg := hrow g (by rw [e1]; simp)
    have hpl : pre.length + 1 ≤ row.length := by rw [e1]; simp
    rw [s_law_moments_0]
    simp [l_law_length gh (show (p - g).natAbs ≤ 1000 by omega)]
    have ab : 0 ≤ absI (p - g) ∧ absI (p - g) ≤ 5 := by unfold absI; split <;> omega
    have q1 : 0 ≤ absI (p - g) * h.r2 := Int.mul_nonneg ab.1 (by omega)
    have q2 : absI (p - g) * h.r2 ≤ absI (p - g) * h.r3 := Int.mul_le_mul_of_nonneg_left a5 ab.1
    have q3 : absI (p - g) * h.r3 ≤ 5 * 3 := Int.mul_le_mul ab.2 a6 (by omega) (by omega)
    generalize absI (p - g) * h.r2 = A at q1 q2
    generalize absI (p - g) * h.r3 = B at q2 q3
    have z := fun Q' => anyI (Q := Q') (l := [0, 0, 1, 5]) o' (by decide) (by decide) (by omega)
    simp only [List.map_cons, List.map_nil] at z
    refine callK_of <| z _ fun u um hs2 o2 => ?_
    have ub : 0 ≤ u ∧ u ≤ 5 := mem_bd um (by decide)
    clear um
    simp
    refine callK_of <| l_draw o2 (by omega) (by omega) (by omega) fun v hs3 v0 v1 o3 => ?_
    simp
    have z2 := fun Q' => anyI (Q := Q') (l := [0, 0, 2, 9]) o3 (by decide) (by decide) (by omega)
    simp only [List.map_cons, List.map_nil] at z2
    refine callK_of <| z2 _ fun w wm hs4 o4 => ?_
    have wb : 0 ≤ w ∧ w ≤ 9 := mem_bd wm (by decide)
    clear wm
    simp
    refine callK_of <| l_draw o4 (by omega) (by omega) (by omega) fun y hs5 y0 y1 o5 => ?_
    have hfew : few ms'.length := few_le (by omega)
    simp [hfew]
    have hz := hR _ ⟨pre ++ [g], hs5, ms' ++ [t + u, t + u + (h.r0 + A) + v, t + u + (h.r0 + A) + v + w, t + u + (h.r0 + A) + v + w + h.d0 + y], g, t + u + (h.r0 + A) + v + w + h.d0 + y, (.val (.int g), .val (.int (h.r0 + A)), .val (.int (h.r1 + B)), .val (.int (t + u)), .val (.int (t + u + (h.r0 + A) + v)), .val (.int (t + u + (h.r0 + A) + v + w))), by simp [e1], rfl, o5.mono (by simp; omega), by simp [e2]; omega, fun m hm => ?_, fun hne => ?_, by omega, by simp; omega, hg.1, hg.2⟩
    · simpa [stM] using hz
    · rcases List.mem_append.mp hm with hm | hm
      · exact e3 m hm
      · simp at hm
        omega
    · have : 0 < ms'.length := by
        rw [e2]
        have := List.length_pos_iff.mpr hne
        omega
      rw [List.getElem?_append_left this, e4 hne]
theorem l_law_moments (gh : GoodH h) (g : GoodT h tt) (o : HandOk n hs) (hn : n ≤ 50000) (k : ∀ (ms : List Int) (hs' : List D), GoodM tt ms → (∀ m ∈ ms, m ≤ 1000) → HandOk (n + 33) hs' → Q hs' (.val (msD ms))) : w_law_moments hs [h.t, ttD tt] Q := by
  have hc1 := gh.c1
  have hs8 := g.s
  rw [e_law_moments, t_law_moments]
  simp
  refine callK_of <| l_draw o (by omega) (by omega) (by omega) fun ap hs1 ap0 ap1 o1 => ?_
  simp
  rw [enumD_map]
  refine forL_to _ (fun l δ => ∃ (a : Nat) (cpre cs : List Cab) (tpre ts : List (List Int)) (hs' : List D) (ms : List Int) (b : Int) (c6 c7 c8 c9 : Cell) (x : Cell × Cell × Cell × Cell × Cell × Cell), h.cs = cpre ++ cs ∧ tt = tpre ++ ts ∧ a = cpre.length ∧ a = tpre.length ∧ cs.length = ts.length ∧ l = ts.zipIdx a ∧ δ = stM h tt hs' ms b ap c6 c7 c8 c9 x ∧ HandOk (n + 1 + 4 * lens tpre) hs' ∧ ms.length = 1 + 4 * lens tpre ∧ (∀ m ∈ ms, 0 ≤ m ∧ m ≤ 1000) ∧ ms[0]? = some 0 ∧ 0 ≤ b ∧ b ≤ 38 * (lens tpre : Nat) + 5 * a) ?_ ?_ _ _ ⟨0, [], h.cs, [], tt, hs1, [0], 0, .emp, .emp, .emp, .emp, (.emp, .emp, .emp, .emp, .emp, .emp), rfl, rfl, rfl, rfl, g.n.symm, rfl, rfl, by simpa [lens] using o1, by simp [lens], by simp, rfl, by omega, by simp [lens]⟩
  · rintro δ ⟨a, cpre, cs, tpre, ts, hs', ms, b, c6, c7, c8, c9, x, e1, e2, e3, e4, e5, e6, rfl, o', e8, e9, e10, e11⟩
    have : ts = [] := by
      cases ts with
      | nil => rfl
      | cons r ts => simp at e6
    subst this
    simp at e2
    subst e2
    simp
    exact ⟨few_le (by omega), k ms hs' ⟨e8, fun m hm => (e9 m hm).1, e10⟩ (fun m hm => (e9 m hm).2) (o'.mono (by omega))⟩
  · rintro ⟨r, a'⟩ l δ R hR ⟨a, cpre, cs, tpre, ts, hs', ms, b, c6, c7, c8, c9, x, e1, e2, e3, e4, e5, e6, rfl, o', e8, e9, e10, e11, e12⟩
    cases ts with
    | nil => simp at e6
    | cons r' ts =>
      cases cs with
      | nil => simp at e5
      | cons c cs =>
        simp at e6
        obtain ⟨⟨rfl, rfl⟩, rfl⟩ := e6
        have hc : h.cs[a']? = some c := by rw [e1, e3]; simp
        have hr : tt[a']? = some r := by rw [e2, e4]; simp
        have gc := gh.cg c (List.mem_of_getElem? hc)
        have gr : GoodRow h.fl c.2.2 r := g.r (c, r) (List.mem_of_getElem? (i := a') (by rw [List.getElem?_zip_eq_some]; exact ⟨hc, hr⟩))
        have h2 : atI (h.cs.map cabD) a' = some (cabD c) := by
          rw [Dn.atI_nat, List.getElem?_map, hc]
          rfl
        have hsum : lens tpre + r.length + lens ts = lens tt := by rw [e2]; simp [lens]; omega
        have ha : a' < h.cs.length := (List.getElem?_eq_some_iff.mp hc).1
        rw [s_law_moments_1]
        simp [h2]
        refine m_in (tt := tt) gh gr.f ⟨gc.p0, gc.p1⟩ (by omega) (by omega) e9 ⟨e11, by omega⟩ (by omega) o' x fun hs2 ms2 p' t' x' o2 m1 m2 m3 t0 t1 => ?_
        have hml := mul_small (i := t' + 5) (j := ap) (by omega) (by omega)
        have hap : (t' + 5) * ap = 0 ∨ (t' + 5) * ap = t' + 5 := by
          have : ap = 0 ∨ ap = 1 := by omega
          rcases this with rfl | rfl
          · exact .inl (Int.mul_zero _)
          · exact .inr (Int.mul_one _)
        have hms : ms ≠ [] := fun e => by rw [e] at e8; simp at e8; omega
        have hz := hR _ ⟨a' + 1, cpre ++ [c], cs, tpre ++ [r], ts, hs2, ms2, (t' + 5) * ap, .val (.int a'), .val (rowD r), p', .val (.int t'), x', by simp [e1], by simp [e2], by simp [e3], by simp [e4], by simpa using e5, rfl, rfl, o2.mono (by simp [lens]; omega), by rw [m1, e8]; simp [lens]; omega, m2, by rw [m3 hms, e10], by omega, by simp [lens]; simp [lens] at e12; omega⟩
        simp [hml]
        simpa [stM] using hz
end
end Hd

set_option Elab.async false
set_option linter.all false
set_option maxRecDepth 100000
set_option maxHeartbeats 4000000
namespace Hd
open PySem PySem.Spec PyProof.Rows L2 Dn
section
variable {Q : List D → Cell → Prop} {hs : List D} {n : Nat} {h : Hs} {tt : List (List Int)} {ms : List Int}
theorem ixN_of {len : Nat} {j : Int} (h0 : 0 ≤ j) (h1 : j < len) : ixN len j = some j.toNat := by
  unfold ixN
  rw [if_pos h0, if_pos h1]
abbrev stB (hs : List D) (ms fs : List Int) (c3 c4 : Cell) : DEnv := [.own (.lst hs), .val (msD ms), .own (.lst (fs.map D.int)), c3, c4]
theorem l_law_bent {B : Int} (hB : B ≤ 100000) (m : GoodM tt ms) (hl : lens tt ≤ 8) (hb : ∀ x ∈ ms, x ≤ B) (o : HandOk n hs) (hn : n ≤ 50000) (k : ∀ (ms' : List Int) (hs' : List D), GoodM tt ms' → (∀ x ∈ ms', x ≤ B + 20) → HandOk (n + 5) hs' → Q hs' (.val (msD ms'))) : w_law_bent hs [msD ms] Q := by
  have hn0 := m.n
  rw [e_law_bent, t_law_bent]
  simp
  refine callK_of <| l_draw o (by omega) (by omega) (by omega) fun t hs1 t0 t1 o1 => ?_
  simp
  refine ⟨⟨by omega, by omega⟩, ?_⟩
  unfold rngD
  rw [List.range_eq_range']
  refine forL_to (fun i : Nat => D.int (0 + (i : Nat))) (fun l δ => ∃ (i mm : Nat) (hs' : List D) (fs : List Int) (c3 c4 : Cell), l = List.range' i mm ∧ i + mm = (1 + t).toNat ∧ δ = stB hs' ms fs c3 c4 ∧ HandOk (n + 1 + 2 * i) hs' ∧ GoodM tt fs ∧ (∀ x ∈ fs, x ≤ B + 10 * i)) ?_ ?_ _ _ ⟨0, (1 + t).toNat, hs1, ms, .emp, .emp, rfl, by omega, rfl, o1, m, fun x hx => by have := hb x hx; omega⟩
  · rintro δ ⟨i, mm, hs', fs, c3, c4, e1, e2, rfl, o', g', b'⟩
    have : mm = 0 := by
      cases mm with
      | zero => rfl
      | succ mm => simp [List.range'_succ] at e1
    have hfn := g'.n
    simp
    exact ⟨few_le (by omega), k fs hs' g' (fun x hx => by have := b' x hx; omega) (o'.mono (by omega))⟩
  · rintro i l δ R hR ⟨i', mm, hs', fs, c3, c4, e1, e2, rfl, o', g', b'⟩
    cases mm with
    | zero => simp at e1
    | succ mm =>
      simp [List.range'_succ] at e1
      obtain ⟨rfl, rfl⟩ := e1
      have hfn := g'.n
      rw [s_law_bent_0]
      simp
      refine callK_of <| l_draw o' (by omega) (by omega) (by omega) fun a hs2 a0 a1 o2 => ?_
      obtain ⟨v, hv, hat⟩ : ∃ v, v ∈ fs ∧ atI (fs.map D.int) a = some (.int v) := by
        have hl : a.toNat < fs.length := by omega
        refine ⟨fs.getD a.toNat 0, ?_, atI_intF (l := fs) a0 a1⟩
        rw [List.getD_eq_getElem?_getD, List.getElem?_eq_getElem hl]
        exact List.getElem_mem hl
      have v0 := g'.p _ hv
      have v1 := b' _ hv
      simp [hat]
      have z := fun Q' => anyI (Q := Q') (l := [1, -1, 2, -3, 10, -10]) o2 (by decide) (by decide) (by omega)
      simp only [List.map_cons, List.map_nil] at z
      refine callK_of <| z _ fun w wm hs3 o3 => ?_
      have wb : -10 ≤ w ∧ w ≤ 10 := mem_bd wm (by decide)
      clear wm
      have hix : ixN fs.length a = some a.toNat := ixN_of a0 a1
      simp [hix, hat]
      obtain ⟨x, hx⟩ : ∃ x : Int, x = (if 0 < v + w then v + w else 0) * (if 0 < a then 1 else 0) := ⟨_, rfl⟩
      have hx0 : 0 ≤ x ∧ x ≤ B + 10 * (i + 1 : Nat) ∧ (a = 0 → x = 0) := by
        rw [hx]
        split <;> split <;> omega
      refine ⟨mul_small (by split <;> omega) (by split <;> omega), ?_⟩
      rw [← hx]
      have hz := hR _ ⟨i + 1, mm, hs3, fs.set a.toNat x, .val (.int i), .val (.int a), rfl, by omega, rfl, o3.mono (by omega), ⟨by simpa using hfn, fun y hy => ?_, ?_⟩, fun y hy => ?_⟩
      · simpa [stB] using hz
      · rcases List.mem_or_eq_of_mem_set hy with hy | rfl
        · exact g'.p y hy
        · exact hx0.1
      · rw [List.getElem?_set]
        by_cases ha : a.toNat = 0
        · have := hx0.2.2 (by omega)
          rw [if_pos ha, if_pos (by omega), this]
        · rw [if_neg ha]
          exact g'.z
      · rcases List.mem_or_eq_of_mem_set hy with hy | rfl
        · have := b' y hy
          omega
        · exact hx0.2.1
/- ticks -/
theorem max_of (m : GoodM tt ms) {B : Int} (hb : ∀ x ∈ ms, x ≤ B) (P : D → Prop) (k : ∀ v : Int, 0 ≤ v → v ≤ B → P (.int v)) : 0 < ms.length ∧ ∀ v, v ∈ ms → (∀ y, y ∈ ms → y ≤ v) → P (.int v) :=
  ⟨by have := m.n; omega, fun v hv _ => k v (m.p v hv) (hb v hv)⟩
abbrev stK (hs : List D) (ms ts : List Int) (c3 c4 : Cell) : DEnv := [.own (.lst hs), .val (msD ms), .val (.lst (ts.map D.int)), c3, c4]
theorem l_law_ticks {B : Int} (hB : B ≤ 100000) (m : GoodM tt ms) (hl : lens tt ≤ 8) (hb : ∀ x ∈ ms, x ≤ B) (o : HandOk n hs) (hn : n ≤ 50000) (k : ∀ (ts : List Int) (hs' : List D), (∀ x ∈ ts, 0 ≤ x) → ts.length ≤ 29 → HandOk (n + 9) hs' → Q hs' (.val (.lst (ts.map D.int)))) : w_law_ticks hs [msD ms] Q := by
  have hn0 := m.n
  rw [e_law_ticks, t_law_ticks]
  simp
  refine ⟨by omega, fun v1 q1 _ => ⟨by omega, fun v2 q2 _ => ⟨by omega, fun v3 q3 _ => ?_⟩⟩⟩
  have p1 := m.p v1 q1; have p2 := m.p v2 q2; have p3 := m.p v3 q3; have b3 := hb v3 q3
  refine callK_of <| l_draw o (by omega) (by omega) (by omega) fun d hs1 d0 d1 o1 => ?_
  simp
  have e8 : rngD 0 8 = (List.range' 0 8).map fun i : Nat => D.int (0 + (i : Nat)) := by
    unfold rngD
    rw [List.range_eq_range']
  rw [e8]
  refine forL_to (fun i : Nat => D.int (0 + (i : Nat))) (fun l δ => ∃ (i mm : Nat) (hs' : List D) (ts : List Int) (c3 c4 : Cell), l = List.range' i mm ∧ i + mm = 8 ∧ δ = stK hs' ms ts c3 c4 ∧ HandOk (n + 1 + i) hs' ∧ (∀ x ∈ ts, 0 ≤ x) ∧ ts.length = 5 + 3 * i) ?_ ?_ _ _ ⟨0, 8, hs1, [0, v1, v2 + 1, 100000000000, d], .emp, .emp, rfl, by omega, rfl, o1, fun x hx => by simp at hx; omega, rfl⟩
  · rintro δ ⟨i, mm, hs', ts, c3, c4, e1, e2, rfl, o', g', b'⟩
    have : mm = 0 := by
      cases mm with
      | zero => rfl
      | succ mm => simp [List.range'_succ] at e1
    simp
    exact k ts hs' g' (by omega) (o'.mono (by omega))
  · rintro i l δ R hR ⟨i', mm, hs', ts, c3, c4, e1, e2, rfl, o', g', b'⟩
    cases mm with
    | zero => simp at e1
    | succ mm =>
      simp [List.range'_succ] at e1
      obtain ⟨rfl, rfl⟩ := e1
      rw [s_law_ticks_0]
      simp
      refine callK_of <| l_anyT o' (by simp; omega) (by simp; omega) (by omega) fun d' hd' hs2 o2 => ?_
      obtain ⟨v, hv, rfl⟩ := List.mem_map.mp hd'
      have v0 := m.p v hv
      have hfew : few ts.length := few_le (by omega)
      have hz := hR _ ⟨i + 1, mm, hs2, ts ++ [v, v + 1, if 0 < v - 1 then v - 1 else 0], .val (.int i), .val (.int v), rfl, by omega, rfl, o2.mono (by omega), fun x hx => ?_, by simp; omega⟩
      · simp [hfew]
        simpa [stK] using hz
      · rcases List.mem_append.mp hx with hx | hx
        · exact g' x hx
        · simp at hx
          rcases hx with rfl | rfl | rfl
          · omega
          · omega
          · split <;> omega
end
end Hd

set_option Elab.async false
set_option linter.all false
set_option maxRecDepth 100000
set_option maxHeartbeats 4000000
namespace Hd
open PySem PySem.Spec PyProof.Rows L2 Dn
section
variable {Q : List D → Cell → Prop} {hs : List D} {n : Nat} {h : Hs} {tt : List (List Int)} {ms : List Int}
abbrev stX (hs : List D) (h : Hs) (tt : List (List Int)) (ms : List Int) (wr : Bool) (an : D) (x : Cell × Cell × Cell) : DEnv := [.own (.lst hs), .val h.t, .val (ttD tt), .val (msD ms), .val h.o, .val (.bl wr), .val an, x.1, x.2.1, x.2.2]
theorem same_where (gh : GoodH h) (g : GoodT h tt) (hcf : cf h tt ms = none) {i : Nat} {c : Cab} {r : List Int} (hc : h.cs[i]? = some c) (hr : tt[i]? = some r) (t : Int) : lw ms i t c.2.2 (rds h tt) = fo ms t c.2.2 (rr i 0 c.2.2 (mkA tt i 0 0) r) := by
  rw [lw_filter, rds_of hc hr]
  exact lw_fo (okc_of gh g hcf hc hr)
theorem tick_loop (gh : GoodH h) (g : GoodT h tt) (m : GoodM tt ms) {an : D} {ts : List Int} (hts : ∀ x ∈ ts, 0 ≤ x) (htl : ts.length ≤ 29) (o : HandOk n hs) (hn : n ≤ 60000) {nx bk ct : DEnv → Prop} {rt : Cell → DEnv → Prop} {ex : XD}
    (k : ∀ hs' x', HandOk (n + 29) hs' → nx (stX hs' h tt ms (cf h tt ms).isSome an x')) (x : Cell × Cell × Cell) :
    forL (gN 7) s_law_case_right_0 ⟨nx, rt, bk, ct, ex⟩ (ts.map D.int) (stX hs h tt ms (cf h tt ms).isSome an x) := by
  have c0 : 0 < h.cs.length := List.length_pos_iff.mpr gh.c0
  have c1 := gh.c1
  refine forL_to D.int (fun l δ => ∃ (pre : List Int) (hs' : List D) (x' : Cell × Cell × Cell), ts = pre ++ l ∧ δ = stX hs' h tt ms (cf h tt ms).isSome an x' ∧ HandOk (n + pre.length) hs') ?_ ?_ _ _ ⟨[], hs, x, rfl, rfl, o⟩
  · rintro δ ⟨pre, hs', x', e1, rfl, o'⟩
    simp at e1
    subst e1
    exact k hs' x' (o'.mono (by omega))
  · rintro t l δ R hR ⟨pre, hs', x', e1, rfl, o'⟩
    have ht := hts t (by rw [e1]; simp)
    have hpl : pre.length < ts.length := by rw [e1]; simp
    rw [s_law_case_right_0]
    simp
    refine callK_of <| l_draw o' (by omega) (by omega) (by omega) fun a hs2 a0 a1 o2 => ?_
    obtain ⟨i, rfl⟩ := Int.eq_ofNat_of_zero_le a0
    have hi : i < h.cs.length := by omega
    have hc : h.cs[i]? = some h.cs[i] := List.getElem?_eq_getElem hi
    have hr : tt[i]? = some (tt[i]'(by rw [g.n]; exact hi)) := List.getElem?_eq_getElem _
    generalize h.cs[i] = c at hc
    generalize tt[i]'(by rw [g.n]; exact hi) = r at hr
    have h2 : atI (h.cs.map cabD) i = some (cabD c) := by
      rw [Dn.atI_nat, List.getElem?_map, hc]
      rfl
    have e1' : ts = (pre ++ [t]) ++ l := by simp [e1]
    cases hcf : cf h tt ms with
    | some d =>
      rw [hcf] at hR
      have hz := hR _ ⟨pre ++ [t], hs2, (.val (.int t), .val (.int i), .val (.str "moments")), e1', rfl, by simpa [Nat.add_assoc] using o2⟩
      have fl := fun Q E => l_floor_of (Q := Q) (E := E) gh g m hc hr ht
      rw [hcf] at fl
      simp [h2, fl, l_is_s]
      exact hz
    | none =>
      rw [hcf] at hR
      have hz := hR _ ⟨pre ++ [t], hs2, (.val (.int t), .val (.int i), .val (fo ms t c.2.2 (rr i 0 c.2.2 (mkA tt i 0 0) r))), e1', rfl, by simpa [Nat.add_assoc] using o2⟩
      have fl := fun Q E => l_floor_of (Q := Q) (E := E) gh g m hc hr ht
      rw [hcf] at fl
      have wh := fun Q E => l_law_where (Q := Q) (E := E) gh g m.n hc (t := t)
      rw [same_where gh g hcf hc hr] at wh
      have w := fun Q E => l_is_w (Q := Q) (E := E) (fo_isW (ms := ms) (t := t) (l := rr i 0 c.2.2 (mkA tt i 0 0) r) (p := c.2.2))
      simp [h2, fl, wh, w]
      exact hz
theorem word_of {d : D} (hcf : cf h tt ms = some d) : ∃ (w x : Str) (i : Int), d = .tup [.str w, .str x, .int i] ∧ (w = "ride" ∨ w = "doors") := by
  obtain ⟨q, _, hq⟩ := List.exists_of_findSome?_eq_some hcf
  unfold ff at hq
  cases hw : fw h ms q with
  | none => rw [hw] at hq; cases hq
  | some w =>
    rw [hw] at hq
    cases hq
    refine ⟨_, _, _, rfl, ?_⟩
    unfold fw at hw
    split at hw
    · cases hw; exact .inl rfl
    · split at hw
      · cases hw; exact .inl rfl
      · split at hw
        · cases hw; exact .inr rfl
        · cases hw
theorem l_law_case_right {B : Int} (hB : B ≤ 100000) (gh : GoodH h) (g : GoodT h tt) (m : GoodM tt ms) (hb : ∀ x ∈ ms, x ≤ B) (o : HandOk n hs) (hn : n ≤ 50000) (k : ∀ hs' : List D, HandOk (n + 38) hs' → Q hs' (.val (.bl true))) : w_law_case_right hs [h.t, ttD tt, msD ms] Q := by
  rw [e_law_case_right, t_law_case_right]
  simp [l_made gh, l_law_ride_fault gh g m.n]
  refine l_fault gh g m fun d hd => ?_
  cases hcf : cf h tt ms with
  | some d' =>
    rw [hcf] at hd
    simp only at hd
    obtain ⟨w, x, i, rfl, hw⟩ := word_of hcf
    subst hd
    have hany : (eqF (.str ("ride" : Str)) (.str w) || eqF (.str ("doors" : Str)) (.str w)) = true := by
      rcases hw with rfl | rfl <;> decide +kernel
    simp only [x_efS] at hany
    have e1 : w = ("ride" : Str) ∨ w = ("doors" : Str) := hw
    simp
    rw [if_pos (by rcases hw with rfl | rfl <;> simp)]
    refine callK_of <| l_law_ticks hB m g.s hb o hn fun ts hs1 hts htl o1 => ?_
    simp
    have tl := tick_loop gh g m (an := .tup [.str w, .str x, .int i]) (nx := retD (orV (vD 5) (callD w_law_stands_right (acD (vD 4) (acD (vD 1) (acD (vD 2) (acD (vD 3) anD)))))) ⟨fun δ => onOwn (fun hs' => Q hs' (.val .non)) δ[0]?, fun c δ => onOwn (fun hs' => Q hs' c) δ[0]?, fun x => False, fun x => False, fun x x_1 x_2 => False⟩) (bk := fun _ => False) (ct := fun _ => False) (rt := fun c δ => onOwn (fun hs' => Q hs' c) δ[0]?) (ex := fun x x_1 x_2 => False) hts htl o1 (by omega) (fun hs' x' o' => by
      rw [hcf]
      simp
      exact k hs' (o'.mono (by omega))) (.emp, .emp, .emp)
    rw [hcf] at tl
    exact tl
  | none =>
    rw [hcf] at hd
    have tl := fun an => fun (ts : List Int) (hs1 : List D) (hts : ∀ x ∈ ts, 0 ≤ x) (htl : ts.length ≤ 29) (o1 : HandOk (n + 9) hs1) => tick_loop gh g m (an := an) (nx := retD (orV (vD 5) (callD w_law_stands_right (acD (vD 4) (acD (vD 1) (acD (vD 2) (acD (vD 3) anD)))))) ⟨fun δ => onOwn (fun hs' => Q hs' (.val .non)) δ[0]?, fun c δ => onOwn (fun hs' => Q hs' c) δ[0]?, fun x => False, fun x => False, fun x x_1 x_2 => False⟩) (bk := fun _ => False) (ct := fun _ => False) (rt := fun c δ => onOwn (fun hs' => Q hs' c) δ[0]?) (ex := fun x x_1 x_2 => False) hts htl o1 (by omega) (fun hs' x' o' => by
      rw [hcf]
      simp [l_stands_right gh g m hcf]
      exact k hs' (o'.mono (by omega))) (.emp, .emp, .emp)
    rw [hcf] at tl
    simp only at hd
    rcases hd with rfl | ⟨s, f, rfl⟩
    · simp
      refine callK_of <| l_law_ticks hB m g.s hb o hn fun ts hs1 hts htl o1 => ?_
      simp
      exact tl _ ts hs1 hts htl o1
    · have hany : ¬ ("ride" : Str) = ("meet" : Str) ∧ ¬ ("doors" : Str) = ("meet" : Str) := by decide +kernel
      simp [hany.1, hany.2]
      refine callK_of <| l_law_ticks hB m g.s hb o hn fun ts hs1 hts htl o1 => ?_
      simp
      exact tl _ ts hs1 hts htl o1
/- the hand -/
theorem l_law_hand {ns : List Int} (hns : ∀ x ∈ ns, bits x) {Q : Cell → Prop} {E : Str → List D → Prop} (k : ∀ hs, HandOk 0 hs → Q (.own (.lst hs))) : w_law_hand [.scr ns] Q E := by
  rw [e_law_hand, t_law_hand]
  simp
  have e1 : Dn.cutD (ns.map D.int) none (some 63) = (ns.take 63).map D.int := by
    rw [show (63 : Int) = ((63 : Nat) : Int) from rfl, cut_take, List.map_take]
  rw [e1, lcL_mapE (f := fun x : Int => .int (if x < 0 then -x else x))]
  · have hl : (ns.take 63).length ≤ 63 := by
      rw [List.length_take]
      exact Nat.min_le_left _ _
    have hm := mul_small (i := 11) (j := ((ns.take 63).length : Nat)) (by decide) (by omega)
    simp at hl hm
    simp [hm]
    refine k _ ⟨⟨(ns.take 63).map fun x => if x < 0 then -x else x, 0, 0, 89 + 11 * ((min 63 ns.length : Nat) : Int), 0, ?_, ?_, ?_, by omega, ⟨by omega, bits_mid (by decide)⟩, ?_, ?_, by omega, by omega⟩⟩
    · simp [Function.comp_def, List.map_take]
    · simpa using hl
    · intro c hc
      obtain ⟨x, hx, rfl⟩ := List.mem_map.mp hc
      have hb := hns x (List.mem_of_mem_take hx)
      refine ⟨by split <;> omega, Nat.lt_of_le_of_lt ?_ hb⟩
      split <;> omega
    · omega
    · omega
  · simp
    exact few_le (by omega)
  · intro x hx R
    simp
/- the law -/
theorem again_loop (gh : GoodH h) (g : GoodT h tt) {sc : D} {c2 : Cell} (m : GoodM tt ms) (hb : ∀ x ∈ ms, x ≤ 1000) (o : HandOk n hs) (hn : n ≤ 40000) {nx bk ct : DEnv → Prop} {rt : Cell → DEnv → Prop} {ex : XD} (c6 : Cell)
    (k : ∀ hs' c5 c6', HandOk (n + 129) hs' → nx [.val sc, .own (.lst hs'), c2, .val h.t, .val (ttD tt), c5, c6']) :
    forL (gN 6) s_law_0 ⟨nx, rt, bk, ct, ex⟩ (rngD 0 3) [.val sc, .own (.lst hs), c2, .val h.t, .val (ttD tt), .val (msD ms), c6] := by
  have e8 : rngD 0 3 = (List.range' 0 3).map fun i : Nat => D.int (0 + (i : Nat)) := by
    unfold rngD
    rw [List.range_eq_range']
  rw [e8]
  refine forL_to (fun i : Nat => D.int (0 + (i : Nat))) (fun l δ => ∃ (i mm : Nat) (hs' : List D) (ms' : List Int) (c6' : Cell), l = List.range' i mm ∧ i + mm = 3 ∧ δ = [.val sc, .own (.lst hs'), c2, .val h.t, .val (ttD tt), .val (msD ms'), c6'] ∧ HandOk (n + 43 * i) hs' ∧ GoodM tt ms' ∧ (∀ x ∈ ms', x ≤ 1000 + 20 * (i : Nat))) ?_ ?_ _ _ ⟨0, 3, hs, ms, c6, rfl, by omega, rfl, o, m, fun x hx => by have := hb x hx; omega⟩
  · rintro δ ⟨i, mm, hs', ms', c6', e1, e2, rfl, o', _⟩
    have : mm = 0 := by
      cases mm with
      | zero => rfl
      | succ mm => simp [List.range'_succ] at e1
    exact k hs' _ c6' (o'.mono (by omega))
  · rintro i l δ R hR ⟨i', mm, hs', ms', c6', e1, e2, rfl, o', m', b'⟩
    cases mm with
    | zero => simp at e1
    | succ mm =>
      simp [List.range'_succ] at e1
      obtain ⟨rfl, rfl⟩ := e1
      rw [s_law_0]
      simp
      refine callK_of <| l_law_case_right (B := 1000 + 20 * (i : Nat)) (by omega) gh g m' b' o' (by omega) fun hs2 o2 => ?_
      simp
      split
      · refine callK_of <| l_law_bent (tt := tt) (B := 1000 + 20 * (i : Nat)) (by omega) m' g.s b' o2 (by omega) fun ms2 hs3 m2 b2 o3 => ?_
        have hz := hR _ ⟨i + 1, mm, hs3, ms2, .val (.int i), rfl, by omega, rfl, o3.mono (by omega), m2, fun x hx => by have := b2 x hx; omega⟩
        simpa using hz
      · have hz := hR _ ⟨i + 1, mm, hs2, ms', .val (.int i), rfl, by omega, rfl, o2.mono (by omega), m', fun x hx => by have := b' x hx; omega⟩
        simpa using hz
theorem l_law {ns : List Int} (hns : ∀ x ∈ ns, bits x) {Q : Cell → Prop} {E : Str → List D → Prop} (k : Q (.val (.bl true))) : w_law [.scr ns] Q E := by
  rw [e_law, t_law]
  simp
  refine l_law_hand hns fun hs0 o0 => ?_
  simp
  have e8 : rngD 0 5 = (List.range' 0 5).map fun i : Nat => D.int (0 + (i : Nat)) := by
    unfold rngD
    rw [List.range_eq_range']
  rw [e8]
  refine forL_to (fun i : Nat => D.int (0 + (i : Nat))) (fun l δ => ∃ (i mm : Nat) (hs' : List D) (c2 c3 c4 c5 c6 : Cell), l = List.range' i mm ∧ i + mm = 5 ∧ δ = [.val (.scr ns), .own (.lst hs'), c2, c3, c4, c5, c6] ∧ HandOk (1000 * i) hs') ?_ ?_ _ _ ⟨0, 5, hs0, .emp, .emp, .emp, .emp, .emp, rfl, by omega, rfl, o0⟩
  · rintro δ ⟨i, mm, hs', c2, c3, c4, c5, c6, e1, e2, rfl, o'⟩
    simp
    exact k
  · rintro i l δ R hR ⟨i', mm, hs', c2, c3, c4, c5, c6, e1, e2, rfl, o'⟩
    cases mm with
    | zero => simp at e1
    | succ mm =>
      simp [List.range'_succ] at e1
      obtain ⟨rfl, rfl⟩ := e1
      rw [s_law_1]
      simp
      have z := fun Q' => anyI (Q := Q') (l := [1, 2, 4]) o' (by decide) (by decide) (by omega)
      simp only [List.map_cons, List.map_nil] at z
      refine callK_of <| z _ fun w wm hs1 o1 => ?_
      have wb : 1 ≤ w ∧ w ≤ 4 := mem_bd wm (by decide)
      clear wm z
      simp
      refine callK_of <| l_law_house o1 wb.1 wb.2 (by omega) fun h hs2 gh o2 => ?_
      simp
      have z := fun Q' => anyI (Q := Q') (l := [2, 4, 8]) o2 (by decide) (by decide) (by omega)
      simp only [List.map_cons, List.map_nil] at z
      refine callK_of <| z _ fun w2 wm hs3 o3 => ?_
      have wb2 : 0 ≤ w2 ∧ w2 ≤ 8 := mem_bd wm (by decide)
      clear wm z
      simp
      refine callK_of <| l_law_timetable gh o3 wb2.1 wb2.2 (by omega) fun tt hs4 g o4 => ?_
      simp
      refine callK_of <| l_law_moments gh g o4 (by omega) fun ms hs5 m hb o5 => ?_
      simp [l_made gh, l_marks_right gh g]
      refine again_loop gh g m hb o5 (by omega) _ fun hs6 c5' c6' o6 => ?_
      exact hR _ ⟨i + 1, mm, hs6, _, _, _, c5', c6', rfl, by omega, rfl, o6.mono (by omega)⟩
end
end Hd

set_option Elab.async false
set_option linter.all false
set_option maxRecDepth 100000
set_option maxHeartbeats 4000000
namespace Hd
open PySem PySem.Spec PyProof.Rows L2 Dn
theorem bits_of {z : Int} (h : Builtin.Int.intBits z ≤ 1048576) : bits z := by
  by_cases n : z.natAbs = 0
  · unfold bits
    rw [n]
    exact Nat.pow_pos (by decide)
  · unfold Builtin.Int.intBits at h
    have e : ¬ z = 0 := fun e => n (by rw [e]; rfl)
    simp [e] at h
    exact Nat.lt_of_lt_of_le ((Nat.log2_lt n).mp (by omega : z.natAbs.log2 < 1048577)) (Nat.pow_le_pow_right (by decide) (by decide))
theorem law_at {w : World} {K : Fr} {mg : Str → Option Value} {fa_ : Addr} {h : Heap} (X : K.In h) (G : h.Ns mainGlobals mg) (hfa : mg ("law" : Str) = some (.ref fa_)) (c : He.SaysX fa fn [] tf ex w h K) :
    LamX.LawAtS PySem.Challenge.rw_waitlifts_k87_whole_where_cabs_are w K (L2.CX PySem.Challenge.rw_waitlifts_k87_whole_where_cabs_are.prog w) 13 63 "script" mg fa_ h := by
  have zu : ∀ base : Heap, (∀ p ∈ lamDefs, LamX.TabB base mg (He.cT K p).1 (He.cT K p).2) → Zu K mg base := fun base tb => ⟨c.t.d, c.more, ⟨h, X, G⟩, tb⟩
  have e := hfa.symm.trans (He.glo_ok X G (c.t.d.fact law_fn (f := .glo "law") rfl))
  cases e
  have mem : ∀ p ∈ lamDefs.map (He.cT K), ∃ d ∈ tf, p = He.cT K d := fun p hp => by
    obtain ⟨d, hd, rfl⟩ := List.mem_map.mp hp
    exact ⟨d, hd, rfl⟩
  obtain ⟨fd, F'⟩ := c.t.d.def_ 57 (d := dfn "law" 100) rfl
  have F : FnP K "law" (top 100) fd := F'
  have bs : Binds K fd ["script"] [] := F.bindsN fun _ _ _ _ _ _ us hl => match us, hl with | [_], _ => rfl
  have b1 := FunD.bindsA (ps := ["script"]) F fun _ _ _ _ _ _ us hl => match us, hl with | [_], _ => rfl
  refine ⟨fd, lamDefs.map (He.cT K), spP K w_law, fun p hp => ?_, fun p hp => ?_, fun p hp => ?_, fun s u => b1 s [u] rfl, fun H a ns hl hb ht hS => ?_, fun base X' G' TB => ?_⟩
  · obtain ⟨d, hd, rfl⟩ := mem p hp
    exact c.empty d hd
  · obtain ⟨d, hd, rfl⟩ := mem p hp
    exact c.out d hd
  · obtain ⟨d, hd, rfl⟩ := mem p hp
    exact PySem.W.codeHd_of_K X (c.hd d hd)
  · refine ⟨fun _ => False, [.scr ns], fun c => c = .val (.bl true), fun _ _ => False, fun _ z => z.elim, ⟨fun q hq => ?_⟩, ⟨.ref a, [], rfl, ⟨a, rfl, ?_⟩, rfl⟩, l_law (fun x hx => bits_of (hb x hx)) rfl, fun M' c' v H' hc _ ro => ?_, fun _ _ _ _ _ _ z => z.elim⟩
    · obtain ⟨d, hd, rfl⟩ := List.mem_map.mp hq
      have := ht (He.cT K d) (List.mem_map.mpr ⟨d, hd, rfl⟩)
      exact ⟨#[], this, trivial, fun pos cv hc => by cases hc⟩
    · rcases hS with hS | hS
      · exact .inl ⟨fun z => z, hS⟩
      · exact .inr hS
    · subst hc
      exact ro
  · exact okF_law (zu base fun p hp => TB _ (List.mem_map.mpr ⟨p, hp, rfl⟩)) F
end Hd
open PySem PySem.W PySem.Calls PyProof.Rows
theorem PySem.Challenge.cw_waitlifts_k87_whole_where_cabs_are_holds : PySem.Challenge.rw_waitlifts_k87_whole_where_cabs_are.Holds := by
  w_on; o_law
  refine HandSHeadRun.head_any (r := OpenLaw.row PySem.Challenge.rw_waitlifts_k87_whole_where_cabs_are) (q := view (OpenLaw.row PySem.Challenge.rw_waitlifts_k87_whole_where_cabs_are).prog [100]) (H := Hd.hk) (ob := Hd.ob) (M := 9000) (loose := Hd.loose) (d := HandSHeadRun.topDef (OpenLaw.row PySem.Challenge.rw_waitlifts_k87_whole_where_cabs_are).prog 100) (kwd := []) Hd.ob_eq
    (by kernel_rfl) (fun s => by kernel_rfl) Hd.run (by kernel_rfl) (by kernel_rfl) (by kernel_rfl) (by rfl) (by first | assumption | decide +kernel) (by decide +kernel) ⟨rfl, rfl, rfl, rfl, rfl, by decide +kernel⟩ ?hw ?hc
  case hw => w_witness2
  case hc =>
    refine LamX.walk_ofTsE (l := PySem.Challenge.rw_waitlifts_k87_whole_where_cabs_are) (n := 63) (k := Hd.law_lv) (x := "script") (CX := fun w => L2.CX PySem.Challenge.rw_waitlifts_k87_whole_where_cabs_are.prog w) rfl (by decide) (by kernel_rfl) ⟨rfl, by decide, by decide⟩ ?F (fun w H s e s' z => by
      obtain ⟨_, _, _, _, _, _, _, _, _, _, _, _, q⟩ := z
      exact q)
    intro w mg fa h Y G hmg0
    obtain ⟨K, KX, c⟩ := Y
    have hmg : mg ("law" : PySem.Str) = some (.ref fa) := by
      have e : (HandSHeadRun.topDef (OpenLaw.row PySem.Challenge.rw_waitlifts_k87_whole_where_cabs_are).prog 100).name = ("law" : PySem.Str) := by kernel_rfl
      rw [← e]
      exact hmg0
    exact ⟨K, KX, Hd.law_at KX G hmg c⟩
