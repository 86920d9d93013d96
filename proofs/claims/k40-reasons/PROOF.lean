import PyProof.Rows.All
import Wide.All
import OpenK.AllK
import Wide.FinOn
import HandS.ForMost
import HandS.Evl
import HandS.Lambda
import HandS.Exc
import HandS.TupLe
import HandS.TupAny
import HandS.Deep
import HandS.Style
import HandS.More
import KE.SortData
import KE.SortKeyHeap
import KE.KDictCopyH
import KE.KDictWalk
import KE.KLam
import KE.KSortKey
import KE.KDictKeyed
import HandS.TupSets
import HandS.Set
import HandS.Text
import HandS.ExcIs
import HandS.ExcOwn
import HandS.WordsExc
import HandS.RaiseMore
import HandS.IsInst
import HandS.Dict
import HandS.DictEq
import PyProof.DictFindH
import PyProof.P3Eq
import KE.KDictPairs
import PySem.Challenge.RW_namefall_k40_whole_reasons
import HandS.HeadHook3
import HandS.EndTab
set_option Elab.async false
set_option linter.all false
set_option maxRecDepth 100000
set_option maxHeartbeats 4000000
namespace NF
open PySem L2

/-- data: what stands still; .op v: a value told by itself (the reference of an owned thing) -/
inductive D where
  | non | bl (b : Bool) | int (i : Int) | str (x : Str)
  | tup (ds : List D) | lst (ds : List D)
  | dic (ks : List (List Key)) (ds : List D)
  | rcd (C : Addr) (ns : List Str) (ds : List D)
  | scr (ns : List Int)
  | op (v : V)

mutual
inductive Rep (K : PySem.W.Frag) (P : Hp) : V → D → Prop
  | non : Rep K P .non .non
  | bl (b : Bool) : Rep K P (.bl b) (.bl b)
  | int (i : Int) : Rep K P (.int i) (.int i)
  | str (x : Str) : Rep K P (.str x) (.str x)
  | tup {a : Addr} {vs : List V} {ds : List D} : P a = some (.tup vs) → RepAll K P vs ds → Rep K P (.ref a) (.tup ds)
  | lst {a : Addr} {vs : List V} {ds : List D} : P a = some (.lst vs) → RepAll K P vs ds → Rep K P (.ref a) (.lst ds)
  | dic {a : Addr} {ks : List (List Key)} {vs : List V} {ds : List D} : Rd P a (.dT (ks.zip vs)) → ks.length = vs.length → RepAll K P vs ds → Rep K P (.ref a) (.dic ks ds)
  | rcd {a C dx : Addr} {ns : List Str} {vs : List V} {ds : List D} : P a = some (.ins C dx (ns.zip vs)) → ns.length = vs.length → RepAll K P vs ds → Rep K P (.ref a) (.rcd C ns ds)
  | scr {a : Addr} (ns : List Int) : SqL K P a (ns.map V.int) → Rep K P (.ref a) (.scr ns)
  | op (v : V) : Rep K P v (.op v)
inductive RepAll (K : PySem.W.Frag) (P : Hp) : List V → List D → Prop
  | nil : RepAll K P [] []
  | cons {v : V} {vs : List V} {d : D} {ds : List D} : Rep K P v d → RepAll K P vs ds → RepAll K P (v :: vs) (d :: ds)
end

/-- P' tells all that P tells; a dict may be locked meanwhile -/
def Le (P P' : Hp) : Prop := ∀ a o, P a = some o → P' a = some o ∨ ∃ ob kvs, o = .dT kvs ∧ P' a = some (.frz ob (.dT kvs))
theorem Le.refl (P : Hp) : Le P P := fun _ _ h => .inl h
theorem Le.trans {P P1 P2 : Hp} (a : Le P P1) (b : Le P1 P2) : Le P P2 := fun x o h => by
  rcases a x o h with h1 | ⟨ob, kvs, e, h1⟩
  · exact b x o h1
  · rcases b x _ h1 with h2 | ⟨_, _, e2, _⟩
    · exact .inr ⟨ob, kvs, e, h2⟩
    · cases e2
theorem Le.free {P P' : Hp} {a : Addr} (h : Le P P') (n : P' a = none) : P a = none := by
  cases e : P a with
  | none => rfl
  | some o =>
    rcases h a o e with h1 | ⟨_, _, _, h1⟩
    · rw [n] at h1; cases h1
    · rw [n] at h1; cases h1
theorem Le.new {P : Hp} {p : Addr} {o : HO} (h : P p = none) : Le P (upd P p o) := fun a u e => .inl (by rw [upd_ne (ne_of_none e h)]; exact e)
theorem Le.lst {P P' : Hp} {a : Addr} {xs : List V} (h : Le P P') (e : P a = some (.lst xs)) : P' a = some (.lst xs) := by
  rcases h a _ e with h1 | ⟨_, _, e2, _⟩
  · exact h1
  · cases e2
theorem Le.tup {P P' : Hp} {a : Addr} {xs : List V} (h : Le P P') (e : P a = some (.tup xs)) : P' a = some (.tup xs) := by
  rcases h a _ e with h1 | ⟨_, _, e2, _⟩
  · exact h1
  · cases e2
theorem Le.ins {P P' : Hp} {a C dx : Addr} {fs : List (Str × V)} (h : Le P P') (e : P a = some (.ins C dx fs)) : P' a = some (.ins C dx fs) := by
  rcases h a _ e with h1 | ⟨_, _, e2, _⟩
  · exact h1
  · cases e2
theorem Le.rdT {P P' : Hp} {a : Addr} {kvs : List (List Key × V)} (h : Le P P') (e : Rd P a (.dT kvs)) : Rd P' a (.dT kvs) := by
  rcases e with e | ⟨o, e⟩
  · rcases h a _ e with h1 | ⟨ob, _, e2, h1⟩
    · exact .inl h1
    · cases e2; exact .inr ⟨ob, h1⟩
  · rcases h a _ e with h1 | ⟨_, _, e2, _⟩
    · exact .inr ⟨o, h1⟩
    · cases e2
theorem Le.sqL {K : PySem.W.Frag} {P P' : Hp} {a : Addr} {xs : List V} (h : Le P P') (e : SqL K P a xs) : SqL K P' a xs := by
  rcases e with (e | ⟨o, e⟩) | e
  · exact .inl (.inl (h.lst e))
  · rcases h a _ e with h1 | ⟨_, _, e2, _⟩
    · exact .inl (.inr ⟨o, h1⟩)
    · cases e2
  · exact .inr e
theorem Le.sqT {K : PySem.W.Frag} {P P' : Hp} {a : Addr} {xs : List V} (h : Le P P') (e : SqT K P a xs) : SqT K P' a xs := by
  rcases e with (e | ⟨o, e⟩) | e
  · rcases h a _ e with h1 | ⟨_, _, e2, _⟩
    · exact .inl (.inl h1)
    · cases e2
  · rcases h a _ e with h1 | ⟨_, _, e2, _⟩
    · exact .inl (.inr ⟨o, h1⟩)
    · cases e2
  · exact .inr e

section
variable {K : PySem.W.Frag} {P P' : Hp}
mutual
theorem Rep.mono (e : Le P P') : ∀ (d : D) (v : V), Rep K P v d → Rep K P' v d
  | .non, _, h => by cases h; exact .non
  | .bl b, _, h => by cases h; exact .bl b
  | .int i, _, h => by cases h; exact .int i
  | .str x, _, h => by cases h; exact .str x
  | .tup ds, _, h => by
    cases h with
    | tup h1 h2 => exact .tup (e.tup h1) (RepAll.mono e ds _ h2)
  | .lst ds, _, h => by
    cases h with
    | lst h1 h2 => exact .lst (e.lst h1) (RepAll.mono e ds _ h2)
  | .dic ks ds, _, h => by
    cases h with
    | dic h1 hl h2 => exact .dic (e.rdT h1) hl (RepAll.mono e ds _ h2)
  | .rcd C ns ds, _, h => by
    cases h with
    | rcd h1 hl h2 => exact .rcd (e.ins h1) hl (RepAll.mono e ds _ h2)
  | .scr ns, _, h => by
    cases h with
    | scr _ h1 => exact .scr ns (e.sqL h1)
  | .op v, _, h => by cases h; exact .op v
theorem RepAll.mono (e : Le P P') : ∀ (ds : List D) (vs : List V), RepAll K P vs ds → RepAll K P' vs ds
  | [], _, h => by cases h; exact .nil
  | d :: ds, _, h => by
    cases h with
    | cons h1 h2 => exact .cons (Rep.mono e d _ h1) (RepAll.mono e ds _ h2)
end
theorem Rep.up {v : V} {d : D} (h : Rep K P v d) (e : Le P P') : Rep K P' v d := Rep.mono e d v h
theorem RepAll.up {v : List V} {d : List D} (h : RepAll K P v d) (e : Le P P') : RepAll K P' v d := RepAll.mono e d v h
theorem RepAll.length : ∀ {vs : List V} {ds : List D}, RepAll K P vs ds → vs.length = ds.length
  | _, [], h => by cases h; rfl
  | _, d :: ds, h => by
    cases h with
    | cons h1 h2 => simp [RepAll.length h2]
theorem RepAll.get : ∀ {vs : List V} {ds : List D} {i : Nat} {d : D}, RepAll K P vs ds → ds[i]? = some d → ∃ v, vs[i]? = some v ∧ Rep K P v d
  | _, [], _, _, h, e => by simp at e
  | _, d :: ds, 0, _, h, e => by
    cases h with
    | cons h1 h2 => simp at e; subst e; exact ⟨_, rfl, h1⟩
  | _, d :: ds, i + 1, x, h, e => by
    cases h with
    | cons h1 h2 =>
      obtain ⟨v, a, b⟩ := RepAll.get (i := i) (d := x) h2 (by simpa using e)
      exact ⟨v, by simpa using a, b⟩
theorem RepAll.get' : ∀ {vs : List V} {ds : List D} {i : Nat} {v : V}, RepAll K P vs ds → vs[i]? = some v → ∃ d, ds[i]? = some d ∧ Rep K P v d := fun {vs ds i v} h e => by
  have hl := h.length
  have hi : i < ds.length := by
    have := (List.getElem?_eq_some_iff.mp e).1
    omega
  obtain ⟨w, a, b⟩ := h.get (List.getElem?_eq_getElem hi)
  rw [e] at a
  cases a
  exact ⟨_, List.getElem?_eq_getElem hi, b⟩
theorem RepAll.append : ∀ {vs ws : List V} {ds es : List D}, RepAll K P vs ds → RepAll K P ws es → RepAll K P (vs ++ ws) (ds ++ es)
  | _, _, [], _, h, h' => by cases h; exact h'
  | _, _, d :: ds, _, h, h' => by
    cases h with
    | cons h1 h2 => exact .cons h1 (RepAll.append h2 h')
theorem RepAll.one {v : V} {d : D} (h : Rep K P v d) : RepAll K P [v] [d] := .cons h .nil
theorem RepAll.set {v : V} {d : D} (r : Rep K P v d) : ∀ {vs : List V} {ds : List D} (i : Nat), RepAll K P vs ds → RepAll K P (vs.set i v) (ds.set i d)
  | _, [], _, h => by cases h; exact .nil
  | _, e :: ds, 0, h => by
    cases h with
    | cons h1 h2 => exact .cons r h2
  | _, e :: ds, i + 1, h => by
    cases h with
    | cons h1 h2 => exact .cons h1 (RepAll.set r i h2)
theorem RepAll.take : ∀ {vs : List V} {ds : List D} (n : Nat), RepAll K P vs ds → RepAll K P (vs.take n) (ds.take n)
  | _, _, 0, _ => by simp; exact .nil
  | _, [], n + 1, h => by cases h; exact .nil
  | _, d :: ds, n + 1, h => by
    cases h with
    | cons h1 h2 => exact .cons h1 (RepAll.take n h2)
theorem RepAll.drop : ∀ {vs : List V} {ds : List D} (n : Nat), RepAll K P vs ds → RepAll K P (vs.drop n) (ds.drop n)
  | _, _, 0, h => by simpa using h
  | _, [], n + 1, h => by cases h; exact .nil
  | _, d :: ds, n + 1, h => by
    cases h with
    | cons h1 h2 => exact RepAll.drop n h2
theorem RepAll.reverse : ∀ {vs : List V} {ds : List D}, RepAll K P vs ds → RepAll K P vs.reverse ds.reverse
  | _, [], h => by cases h; exact .nil
  | _, d :: ds, h => by
    cases h with
    | cons h1 h2 =>
      rw [List.reverse_cons, List.reverse_cons]
      exact (RepAll.reverse h2).append (.one h1)
end

/-- an owned thing: a list, a dict with tuple keys, an instance -/
inductive MO where
  | lst (ds : List D)
  | dic (kvs : List (List Key × D))
  | ins (C : Addr) (fs : List (Str × D))
  | tab (q : Str)
  | exc (C : Addr)
  | dicL (ob : Obj) (vs : List (List Key × V)) (kvs : List (List Key × D))
abbrev Mp := List (Addr × MO)
def FRep (K : PySem.W.Frag) (P : Hp) : List (Str × V) → List (Str × D) → Prop := Paired fun p q => p.1 = q.1 ∧ Rep K P p.2 q.2
theorem FRep.up {K : PySem.W.Frag} {P P' : Hp} (e : Le P P') : ∀ {xs : List (Str × V)} {ys : List (Str × D)}, FRep K P xs ys → FRep K P' xs ys
  | _, _, .nil => .nil
  | _, _, .cons r t => .cons ⟨r.1, r.2.up e⟩ (FRep.up e t)
def KRep (K : PySem.W.Frag) (P : Hp) : List (List Key × V) → List (List Key × D) → Prop := Paired fun p q => p.1 = q.1 ∧ Rep K P p.2 q.2
theorem KRep.up {K : PySem.W.Frag} {P P' : Hp} (e : Le P P') : ∀ {xs : List (List Key × V)} {ys : List (List Key × D)}, KRep K P xs ys → KRep K P' xs ys
  | _, _, .nil => .nil
  | _, _, .cons r t => .cons ⟨r.1, r.2.up e⟩ (KRep.up e t)
def MOk (K : PySem.W.Frag) (P H : Hp) (a : Addr) : MO → Prop
  | .lst ds => ∃ vs, H a = some (.lst vs) ∧ RepAll K P vs ds
  | .dic kvs => ∃ vs, H a = some (.dT vs) ∧ KRep K P vs kvs
  | .ins C fs => ∃ dx vs, H a = some (.ins C dx vs) ∧ FRep K P vs fs
  | .tab q => LamX.TabS H a q
  | .dicL ob vs kvs => H a = some (.frz ob (.dT vs)) ∧ KRep K P vs kvs
  | .exc C => ∃ oe u, H a = some (.frz oe u) ∧ Zc (.ref C) none oe ∧ ∃ vs, oe.data = .fields vs
/-- known code objects stay -/
def Codes (H H' : Hp) : Prop := ∀ c q, H c = some (LamX.CodeO c q) → H' c = some (LamX.CodeO c q)
theorem Codes.refl (H : Hp) : Codes H H := fun _ _ h => h
theorem Codes.new {H : Hp} {p : Addr} {o : HO} (h : H p = none) : Codes H (upd H p o) := fun c q e => by rw [upd_ne (ne_of_none e h)]; exact e
theorem MOk.up {K : PySem.W.Frag} {P P' H H' : Hp} {a : Addr} (e : Le P P') (h : H' a = H a) (hc : Codes H H') : ∀ {o : MO}, MOk K P H a o → MOk K P' H' a o
  | .exc C, ⟨oe, u, h1, h2⟩ => ⟨oe, u, h.trans h1, h2⟩
  | .dicL ob vs kvs, ⟨h1, h2⟩ => ⟨h.trans h1, h2.up e⟩
  | .lst ds, ⟨vs, h1, h2⟩ => ⟨vs, h.trans h1, h2.up e⟩
  | .dic kvs, ⟨vs, h1, h2⟩ => ⟨vs, h.trans h1, h2.up e⟩
  | .ins C fs, ⟨dx, vs, h1, h2⟩ => ⟨dx, vs, h.trans h1, h2.up e⟩
  | .tab q, ⟨ps, h1, h2, h3⟩ => ⟨ps, h.trans h1, h2, fun pos cv k => let ⟨c, e1, e2⟩ := h3 pos cv k; ⟨c, e1, hc _ _ e2⟩⟩
theorem MOk.isAt {K : PySem.W.Frag} {P H : Hp} {a : Addr} : ∀ {o : MO}, MOk K P H a o → ∃ u, H a = some u
  | .exc C, ⟨oe, u, h1, h2⟩ => ⟨_, h1⟩
  | .dicL ob vs kvs, ⟨h1, h2⟩ => ⟨_, h1⟩
  | .lst ds, ⟨vs, h1, h2⟩ => ⟨_, h1⟩
  | .dic kvs, ⟨vs, h1, h2⟩ => ⟨_, h1⟩
  | .ins C fs, ⟨dx, vs, h1, h2⟩ => ⟨_, h1⟩
  | .tab q, ⟨ps, h1, _⟩ => ⟨_, h1⟩
theorem MOk.noTup {K : PySem.W.Frag} {P H : Hp} {a : Addr} : ∀ {o : MO}, MOk K P H a o → ∀ xs, H a ≠ some (.tup xs)
  | .exc C, ⟨oe, u, h1, h2⟩, q => fun z => by rw [h1] at z; cases z
  | .dicL ob vs kvs, ⟨h1, h2⟩, q => fun z => by rw [h1] at z; cases z
  | .lst ds, ⟨vs, h1, h2⟩, q => fun z => by rw [h1] at z; cases z
  | .dic kvs, ⟨vs, h1, h2⟩, q => fun z => by rw [h1] at z; cases z
  | .ins C fs, ⟨dx, vs, h1, h2⟩, q => fun z => by rw [h1] at z; cases z
  | .tab _, ⟨ps, h1, _⟩, q => fun z => by rw [h1] at z; cases z
theorem MOk.noCode {K : PySem.W.Frag} {P H : Hp} {a : Addr} : ∀ {o : MO}, MOk K P H a o → ∀ q, H a ≠ some (LamX.CodeO a q)
  | .exc C, ⟨oe, u, h1, h2⟩, q => fun z => by rw [h1] at z; unfold LamX.CodeO at z; cases z
  | .dicL ob vs kvs, ⟨h1, h2⟩, q => fun z => by rw [h1] at z; unfold LamX.CodeO at z; cases z
  | .lst ds, ⟨vs, h1, h2⟩, q => fun z => by rw [h1] at z; unfold LamX.CodeO at z; cases z
  | .dic kvs, ⟨vs, h1, h2⟩, q => fun z => by rw [h1] at z; unfold LamX.CodeO at z; cases z
  | .ins C fs, ⟨dx, vs, h1, h2⟩, q => fun z => by rw [h1] at z; unfold LamX.CodeO at z; cases z
  | .tab _, ⟨ps, h1, _⟩, q => fun z => by rw [h1] at z; unfold LamX.CodeO at z; cases z
abbrev dom (M : Mp) : List Addr := M.map (·.1)

structure Sat (K : PySem.W.Frag) (P : Hp) (M : Mp) (H : Hp) : Prop where
  sub : Le P H
  nd : (dom M).Nodup
  ob : ∀ a o, (a, o) ∈ M → P a = none ∧ MOk K P H a o
structure Grow (K : PySem.W.Frag) (P : Hp) (M : Mp) (H : Hp) (P' : Hp) (M' : Mp) (H' : Hp) : Prop where
  le : Le P P'
  sat : Sat K P' M' H'
  keep : ∀ a o, H a = some o → a ∉ dom M → H' a = some o ∨ ∃ ob kvs, o = .dT kvs ∧ H' a = some (.frz ob (.dT kvs))
  newP : ∀ a o, P' a = some o → (∃ o', P a = some o') ∨ H a = none ∨ a ∈ dom M ∨ ∃ xs, o = .tup xs ∧ H a = some (.tup xs)
  newM : ∀ a, a ∈ dom M' → a ∈ dom M ∨ H a = none

theorem Grow.refl {K : PySem.W.Frag} {P H : Hp} {M : Mp} (s : Sat K P M H) : Grow K P M H P M H :=
  ⟨Le.refl P, s, fun _ _ h _ => .inl h, fun a o h => .inl ⟨o, h⟩, fun a h => .inl h⟩
theorem Grow.trans {K : PySem.W.Frag} {P P1 P2 H H1 H2 : Hp} {M M1 M2 : Mp} (g : Grow K P M H P1 M1 H1) (g' : Grow K P1 M1 H1 P2 M2 H2) : Grow K P M H P2 M2 H2 where
  le := g.le.trans g'.le
  sat := g'.sat
  keep := fun a o h n => by
    have n1 : a ∉ dom M1 := fun z => by
      rcases g.newM a z with q | q
      · exact n q
      · rw [h] at q; cases q
    rcases g.keep a o h n with q | ⟨ob, kvs, e, q⟩
    · exact g'.keep a o q n1
    · rcases g'.keep a _ q n1 with r | ⟨_, _, e2, _⟩
      · exact .inr ⟨ob, kvs, e, r⟩
      · cases e2
  newP := fun a o h => by
    rcases g'.newP a o h with ⟨o', q⟩ | q | q | ⟨xs, e, q⟩
    · rcases g.newP a o' q with z | z | z | ⟨xs, e, z⟩
      · exact .inl z
      · exact .inr (.inl z)
      · exact .inr (.inr (.inl z))
      · subst e
        have y := g'.le.tup q
        rw [y] at h
        cases h
        exact .inr (.inr (.inr ⟨xs, rfl, z⟩))
    · by_cases n : a ∈ dom M
      · exact .inr (.inr (.inl n))
      · cases e : H a with
        | none => exact .inr (.inl rfl)
        | some u =>
          rcases g.keep a u e n with r | ⟨_, _, _, r⟩
          · rw [q] at r; cases r
          · rw [q] at r; cases r
    · rcases g.newM a q with r | r
      · exact .inr (.inr (.inl r))
      · exact .inr (.inl r)
    · by_cases n : a ∈ dom M
      · exact .inr (.inr (.inl n))
      · cases e2 : H a with
        | none => exact .inr (.inl rfl)
        | some u =>
          rcases g.keep a u e2 n with r | ⟨_, _, _, r⟩
          · rw [q] at r
            cases r
            exact .inr (.inr (.inr ⟨xs, e, rfl⟩))
          · rw [q] at r; cases r
  newM := fun a h => by
    rcases g'.newM a h with q | q
    · exact g.newM a q
    · by_cases n : a ∈ dom M
      · exact .inl n
      · cases e : H a with
        | none => exact .inr rfl
        | some u =>
          rcases g.keep a u e n with r | ⟨_, _, _, r⟩
          · rw [q] at r; cases r
          · rw [q] at r; cases r

/-- a new pure object -/
theorem Grow.laid {K : PySem.W.Frag} {P H : Hp} {M : Mp} {p : Addr} {o : HO} (s : Sat K P M H) (hp : H p = none) : Grow K P M H (upd P p o) M (upd H p o) := by
  have pp : P p = none := s.sub.free hp
  have nm : p ∉ dom M := fun z => by
    obtain ⟨⟨a, mo⟩, hm, rfl⟩ := List.mem_map.mp z
    obtain ⟨u, hu⟩ := (s.ob a mo hm).2.isAt
    rw [hp] at hu; cases hu
  refine ⟨Le.new pp, ⟨fun a u h => ?_, s.nd, fun a mo hm => ?_⟩, fun a u h n => .inl ?_, fun a u h => ?_, fun a h => .inl h⟩
  · by_cases e : a = p
    · subst e; rw [upd_same] at h ⊢; exact .inl h
    · rw [upd_ne e] at h ⊢; exact s.sub a u h
  · obtain ⟨h1, h2⟩ := s.ob a mo hm
    have e : a ≠ p := fun e => nm (by rw [← e]; exact List.mem_map.mpr ⟨_, hm, rfl⟩)
    exact ⟨by rw [upd_ne e]; exact h1, h2.up (Le.new pp) (upd_ne e) (Codes.new hp)⟩
  · rw [upd_ne (ne_of_none h hp)]; exact h
  · by_cases e : a = p
    · subst e; exact .inr (.inl hp)
    · rw [upd_ne e] at h; exact .inl ⟨u, h⟩
/-- tuples that stand are taken into the pure part -/
noncomputable def tups (P H : Hp) (as : List Addr) : Hp := fun a => open Classical in if a ∈ as ∧ P a = none then H a else P a
theorem Grow.tups {K : PySem.W.Frag} {P H : Hp} {M : Mp} (s : Sat K P M H) (as : List Addr) (ht : ∀ a, a ∈ as → ∃ xs, H a = some (.tup xs)) : Grow K P M H (tups P H as) M H ∧ ∀ a xs, a ∈ as → H a = some (.tup xs) → tups P H as a = some (.tup xs) := by
  have le : Le P (NF.tups P H as) := fun a o h => .inl (by
    unfold NF.tups
    rw [if_neg (fun z => by rw [z.2] at h; cases h)]
    exact h)
  refine ⟨⟨le, ⟨fun a o h => ?_, s.nd, fun a m hm => ?_⟩, fun a o h _ => .inl h, fun a o h => ?_, fun a h => .inl h⟩, fun a xs ha hx => ?_⟩
  · unfold NF.tups at h
    split at h
    · exact .inl h
    · exact s.sub a o h
  · obtain ⟨h1, h2⟩ := s.ob a m hm
    refine ⟨?_, h2.up le rfl (Codes.refl H)⟩
    unfold NF.tups
    have : ¬ (a ∈ as ∧ P a = none) := fun ⟨z, _⟩ => by
      obtain ⟨xs, hx⟩ := ht a z
      exact h2.noTup xs hx
    rw [if_neg this]
    exact h1
  · unfold NF.tups at h
    split at h
    · rename_i c
      obtain ⟨xs, hx⟩ := ht a c.1
      rw [hx] at h
      cases h
      exact .inr (.inr (.inr ⟨xs, rfl, hx⟩))
    · exact .inl ⟨o, h⟩
  · unfold NF.tups
    by_cases c : P a = none
    · rw [if_pos ⟨ha, c⟩]; exact hx
    · rw [if_neg (fun z => c z.2)]
      cases e : P a with
      | none => exact absurd e c
      | some o =>
        rcases s.sub a o e with z | ⟨ob, kvs, _, z⟩
        · rw [hx] at z; exact congrArg some (Option.some.inj z).symm
        · rw [hx] at z; cases z
/-- something new that is in neither part -/
theorem Grow.aside {K : PySem.W.Frag} {P H : Hp} {M : Mp} {p : Addr} {o : HO} (s : Sat K P M H) (hp : H p = none) : Grow K P M H P M (upd H p o) := by
  have pp : P p = none := s.sub.free hp
  refine ⟨Le.refl P, ⟨fun a u h => ?_, s.nd, fun a mo hm => ?_⟩, fun a u h n => .inl ?_, fun a u h => .inl ⟨u, h⟩, fun a h => .inl h⟩
  · have e : a ≠ p := fun e => by rw [e, pp] at h; cases h
    rw [upd_ne e]; exact s.sub a u h
  · obtain ⟨h1, h2⟩ := s.ob a mo hm
    obtain ⟨u, hu⟩ := h2.isAt
    exact ⟨h1, h2.up (Le.refl P) (upd_ne (ne_of_none hu hp)) (Codes.new hp)⟩
  · rw [upd_ne (ne_of_none h hp)]; exact h
/-- a new owned object -/
theorem Grow.owned {K : PySem.W.Frag} {P H : Hp} {M : Mp} {p : Addr} {o : HO} {mo : MO} (s : Sat K P M H) (hp : H p = none) (ok : MOk K P (upd H p o) p mo) : Grow K P M H P ((p, mo) :: M) (upd H p o) := by
  have g := Grow.aside (o := o) s hp
  have pp : P p = none := s.sub.free hp
  have nm : p ∉ dom M := fun z => by
    obtain ⟨⟨a, m⟩, hm, rfl⟩ := List.mem_map.mp z
    obtain ⟨u, hu⟩ := (s.ob a m hm).2.isAt
    rw [hp] at hu; cases hu
  refine ⟨g.le, ⟨g.sat.sub, List.nodup_cons.mpr ⟨nm, g.sat.nd⟩, fun a m hm => ?_⟩, g.keep, g.newP, fun a h => ?_⟩
  · rcases List.mem_cons.mp hm with e | hm
    · cases e; exact ⟨pp, ok⟩
    · exact g.sat.ob a m hm
  · rcases List.mem_cons.mp h with e | h
    · rw [e]; exact .inr hp
    · exact .inl h

abbrev Ctx := List (Option D)
structure Slots (K : PySem.W.Frag) (P : Hp) (σ : St) (Γ : Ctx) : Prop where
  len : σ.length = Γ.length
  get : ∀ (i : Nat) (d : D), Γ[i]? = some (some d) → ∃ v, σ[i]? = some (some v) ∧ Rep K P v d
theorem Slots.up {K : PySem.W.Frag} {P P' : Hp} {σ : St} {Γ : Ctx} (h : Slots K P σ Γ) (e : Le P P') : Slots K P' σ Γ :=
  ⟨h.len, fun i d q => let ⟨v, a, b⟩ := h.get i d q; ⟨v, a, b.up e⟩⟩
theorem Slots.set {K : PySem.W.Frag} {P : Hp} {σ : St} {Γ : Ctx} {v : V} {d : D} (h : Slots K P σ Γ) (r : Rep K P v d) (i : Nat) : Slots K P (σ.set i (some v)) (Γ.set i (some d)) := by
  refine ⟨by simp [h.len], fun j e q => ?_⟩
  by_cases c : i = j
  · subst c
    have hi : i < Γ.length := by
      have := (List.getElem?_eq_some_iff.mp q).1
      simpa using this
    rw [List.getElem?_set_self hi] at q
    have q' : d = e := Option.some.inj (Option.some.inj q)
    subst q'
    exact ⟨v, List.getElem?_set_self (by rw [h.len]; exact hi), r⟩
  · rw [List.getElem?_set_ne c] at q
    obtain ⟨w, a, b⟩ := h.get j e q
    exact ⟨w, by rw [List.getElem?_set_ne c]; exact a, b⟩
theorem Slots.unset {K : PySem.W.Frag} {P : Hp} {σ : St} {Γ : Ctx} (h : Slots K P σ Γ) (i : Nat) : Slots K P (σ.set i none) (Γ.set i none) := by
  refine ⟨by simp [h.len], fun j e q => ?_⟩
  by_cases c : i = j
  · subst c
    have hi : i < Γ.length := by
      have := (List.getElem?_eq_some_iff.mp q).1
      simpa using this
    rw [List.getElem?_set_self hi] at q
    cases q
  · rw [List.getElem?_set_ne c] at q
    obtain ⟨w, a, b⟩ := h.get j e q
    exact ⟨w, by rw [List.getElem?_set_ne c]; exact a, b⟩
def gwipe (Γ : Ctx) : List Nat → Ctx
  | [] => Γ
  | v :: vs => (gwipe Γ vs).set v none
theorem Slots.wipe {K : PySem.W.Frag} {P : Hp} {σ : St} {Γ : Ctx} (h : Slots K P σ Γ) : ∀ vs : List Nat, Slots K P (L2.wipe σ vs) (gwipe Γ vs)
  | [] => h
  | v :: vs => (Slots.wipe h vs).unset v

abbrev KD := D → Mp → Prop
abbrev WE := Ctx → Mp → KD → Prop
abbrev WT := Ctx → Mp → (Bool → Mp → Prop) → Prop
abbrev WA := Ctx → Mp → (List D → Mp → Prop) → Prop
def Post (K : PySem.W.Frag) (P : Hp) (M : Mp) (H : Hp) (Φ : KD) (Q : VK) : Prop := ∀ d M', Φ d M' → ∀ v P' H', Grow K P M H P' M' H' → Rep K P' v d → Q v H'
def PostT (K : PySem.W.Frag) (P : Hp) (M : Mp) (H : Hp) (Φ : Bool → Mp → Prop) (Q : Bool → Hp → Prop) : Prop := ∀ b M', Φ b M' → ∀ P' H', Grow K P M H P' M' H' → Q b H'
def PostA (K : PySem.W.Frag) (P : Hp) (M : Mp) (H : Hp) (Φ : List D → Mp → Prop) (Q : List V → Hp → Prop) : Prop := ∀ ds M', Φ ds M' → ∀ vs P' H', Grow K P M H P' M' H' → RepAll K P' vs ds → Q vs H'
def tOf (K : PySem.W.Frag) (w : WE) : TE := fun σ H Q => ∃ Γ M P Φ, Slots K P σ Γ ∧ Sat K P M H ∧ w Γ M Φ ∧ Post K P M H Φ Q
def ttOf (K : PySem.W.Frag) (w : WT) : TT := fun σ H Q => ∃ Γ M P Φ, Slots K P σ Γ ∧ Sat K P M H ∧ w Γ M Φ ∧ PostT K P M H Φ Q
def taOf (K : PySem.W.Frag) (w : WA) : TA := fun σ H Q => ∃ Γ M P Φ, Slots K P σ Γ ∧ Sat K P M H ∧ w Γ M Φ ∧ PostA K P M H Φ Q
abbrev PD (X : Cx) (e : Expr) (w : WE) : Prop := PE X e (tOf X.K w)
abbrev PDT (X : Cx) (e : Expr) (w : WT) : Prop := PT X e (ttOf X.K w)
abbrev PDW (X : Cx) (e : Expr) (w : WT) : Prop := PW X e (ttOf X.K w)
abbrev PDA (X : Cx) (es : List Expr) (w : WA) : Prop := PA X es (taOf X.K w)
theorem PE.weak {X : Cx} {e : Expr} {t t' : TE} (h : PE X e t) (k : ∀ σ H Q, t' σ H Q → t σ H Q) : PE X e t' := ⟨fun pins s σ H Q I hw => h.run pins s σ H Q I (k σ H Q hw)⟩
theorem PT.weak {X : Cx} {e : Expr} {t t' : TT} (h : PT X e t) (k : ∀ σ H Q, t' σ H Q → t σ H Q) : PT X e t' := ⟨fun pins s σ H Q I hw => h.run pins s σ H Q I (k σ H Q hw)⟩
theorem PW.weak {X : Cx} {e : Expr} {t t' : TT} (h : PW X e t) (k : ∀ σ H Q, t' σ H Q → t σ H Q) : PW X e t' := ⟨fun wh pins s σ H Q I hw => h.run wh pins s σ H Q I (k σ H Q hw)⟩
theorem PA.weak {X : Cx} {e : List Expr} {t t' : TA} (h : PA X e t) (k : ∀ σ H Q, t' σ H Q → t σ H Q) : PA X e t' := ⟨fun pos pins s σ H Q I hw => h.run pos pins s σ H Q I (k σ H Q hw)⟩
theorem PS.weak {X : Cx} {e : Stmt} {t t' : TS} (h : PS X e t) (k : ∀ D σ H, t' D σ H → t D σ H) : PS X e t' := ⟨fun pins s σ H D I hw => h.run pins s σ H D I (k D σ H hw)⟩
theorem PSs.weak {X : Cx} {e : List Stmt} {t t' : TS} (h : PSs X e t) (k : ∀ D σ H, t' D σ H → t D σ H) : PSs X e t' := ⟨fun pins s σ H D I hw => h.run pins s σ H D I (k D σ H hw)⟩
theorem Post.mk {K : PySem.W.Frag} {P H P1 H1 : Hp} {M M1 : Mp} {Φ : KD} {Q : VK} (q : Post K P M H Φ Q) (g : Grow K P M H P1 M1 H1) : Post K P1 M1 H1 Φ Q := fun d M' h v P' H' g' r => q d M' h v P' H' (g.trans g') r
theorem PostT.mk {K : PySem.W.Frag} {P H P1 H1 : Hp} {M M1 : Mp} {Φ : Bool → Mp → Prop} {Q : Bool → Hp → Prop} (q : PostT K P M H Φ Q) (g : Grow K P M H P1 M1 H1) : PostT K P1 M1 H1 Φ Q := fun d M' h P' H' g' => q d M' h P' H' (g.trans g')
theorem PostA.mk {K : PySem.W.Frag} {P H P1 H1 : Hp} {M M1 : Mp} {Φ : List D → Mp → Prop} {Q : List V → Hp → Prop} (q : PostA K P M H Φ Q) (g : Grow K P M H P1 M1 H1) : PostA K P1 M1 H1 Φ Q := fun d M' h v P' H' g' r => q d M' h v P' H' (g.trans g') r
theorem Post.here {K : PySem.W.Frag} {P H : Hp} {M : Mp} {Φ : KD} {Q : VK} {d : D} {v : V} (q : Post K P M H Φ Q) (s : Sat K P M H) (h : Φ d M) (r : Rep K P v d) : Q v H := q d M h v P H (Grow.refl s) r

section
variable {X : Cx} {pos : Pos}
def wVar (i : Nat) : WE := fun Γ M Φ => ∃ d, Γ[i]? = some (some d) ∧ Φ d M
def wC (d : D) : WE := fun _ M Φ => Φ d M
theorem d_var (i : Nat) {x : Str} (hN : X.N[i]? = some x := by rfl) (hv : Vis X.env.scope x := by first | exact Or.inl rfl | exact Or.inr (Or.inl rfl) | exact Or.inr (Or.inr rfl)) (hd : (x == ("__debug__" : Str)) = false := by decide)
    (hcd : (x == ("__classdict__" : Str)) = false := by decide) : PD X (.Name x pos) (wVar i) :=
  PE.weak (pe_var hN hv hd hcd) fun σ H Q ⟨Γ, M, P, Φ, s, a, ⟨d, e, h⟩, q⟩ => by
    obtain ⟨v, e1, r⟩ := s.get i d e
    exact ⟨v, e1, q.here a h r⟩
theorem of_const {v : V} {d : D} (r : ∀ K P, Rep K P v d) {K : PySem.W.Frag} : ∀ σ H Q, tOf K (wC d) σ H Q → tC v σ H Q := fun σ H Q ⟨Γ, M, P, Φ, s, a, h, q⟩ => q.here a h (r K P)
theorem d_int {i : Int} {j} : PD X (.Constant (.int i) j pos) (wC (.int i)) := PE.weak pe_int (of_const fun _ _ => .int i)
theorem d_bl {b : Bool} {j} : PD X (.Constant (.bool b) j pos) (wC (.bl b)) := PE.weak pe_bl (of_const fun _ _ => .bl b)
theorem d_non {j} : PD X (.Constant .none j pos) (wC .non) := PE.weak pe_non (of_const fun _ _ => .non)
theorem d_str {x : Str} {j} : PD X (.Constant (.str x) j pos) (wC (.str x)) := PE.weak pe_str (of_const fun _ _ => .str x)
/-- a module's constant -/
theorem d_glob {x : Str} {v : V} {d : D} {u : Value} (hg : Gl X x) (hm : X.mg x = some u) (r : RelV v u) (k : ∀ K P, Rep K P v d) (hd : (x == ("__debug__" : Str)) = false := by decide) : PD X (.Name x pos) (wC d) := PE.weak (pe_glob hg hm r hd) (of_const k)
end
end NF
namespace NF
open PySem L2

abbrev AR2 := D → D → Mp → KD → Prop
abbrev AR1 := D → Mp → KD → Prop
abbrev ARC := List D → Mp → KD → Prop
def rOf (K : PySem.W.Frag) (r : AR2) : R2 := fun x y H Q => ∃ d e M P Φ, Rep K P x d ∧ Rep K P y e ∧ Sat K P M H ∧ r d e M Φ ∧ Post K P M H Φ Q
def uOf (K : PySem.W.Frag) (r : AR1) : V → Hp → VK → Prop := fun x H Q => ∃ d M P Φ, Rep K P x d ∧ Sat K P M H ∧ r d M Φ ∧ Post K P M H Φ Q
def cOf (K : PySem.W.Frag) (r : ARC) : List V → Hp → VK → Prop := fun vs H Q => ∃ ds M P Φ, RepAll K P vs ds ∧ Sat K P M H ∧ r ds M Φ ∧ Post K P M H Φ Q
def mOf (K : PySem.W.Frag) (r : D → List D → Mp → KD → Prop) : V → List V → Hp → VK → Prop := fun x vs H Q => ∃ d ds M P Φ, Rep K P x d ∧ RepAll K P vs ds ∧ Sat K P M H ∧ r d ds M Φ ∧ Post K P M H Φ Q
theorem OpR.weak {X : Cx} {f : Value → Value → Sem Value} {r r' : R2} (h : OpR X f r) (k : ∀ x y H Q, r' x y H Q → r x y H Q) : OpR X f r' := fun pins s σ H x y v u Q I rx ry q => h pins s σ H x y v u Q I rx ry (k x y H Q q)
theorem IxR.weak {X : Cx} {r r' : R2} (h : IxR X r) (k : ∀ x y H Q, r' x y H Q → r x y H Q) : IxR X r' := fun va sl pins s σ H x y v u Q I rx ry q => h va sl pins s σ H x y v u Q I rx ry (k x y H Q q)
theorem CallR.weak {X : Cx} {f : Value} {r r' : List V → Hp → VK → Prop} (h : CallR X f r) (k : ∀ x H Q, r' x H Q → r x H Q) : CallR X f r' := fun pins s σ H vs us Q I rx q => h pins s σ H vs us Q I rx (k vs H Q q)
theorem SlR.weak {X : Cx} {r r' : V → Option Int → Option Int → Hp → VK → Prop} (h : SlR X r) (k : ∀ x l u H Q, r' x l u H Q → r x l u H Q) : SlR X r' := fun pins s σ H x v vl vu lo hi sl Q I rx hs pl pu q => h pins s σ H x v vl vu lo hi sl Q I rx hs pl pu (k x lo hi H Q q)

def wOp (r : AR2) (a b : WE) : WE := fun Γ M Φ => a Γ M fun x M1 => b Γ M1 fun y M2 => r x y M2 Φ
theorem two {K : PySem.W.Frag} {wa wb : WE} {r : AR2} (σ : St) (H : Hp) (Q : VK) : tOf K (wOp r wa wb) σ H Q → tOp (rOf K r) (tOf K wa) (tOf K wb) σ H Q := fun ⟨Γ, M, P, Φ, s, a, h, q⟩ =>
  ⟨Γ, M, P, _, s, a, h, fun d1 M1 h1 v1 P1 H1 g1 r1 => ⟨Γ, M1, P1, _, s.up g1.le, g1.sat, h1, fun d2 M2 h2 v2 P2 H2 g2 r2 => ⟨d1, d2, M2, P2, Φ, r1.up g2.le, r2, g2.sat, h2, q.mk (g1.trans g2)⟩⟩⟩
def wTest (w : WE) : WT := fun Γ M Ψ => w Γ M fun d M' => ∃ k, d = .bl k ∧ Ψ k M'
theorem test_of {K : PySem.W.Frag} {w : WE} (σ : St) (H : Hp) (Q : Bool → Hp → Prop) : ttOf K (wTest w) σ H Q → tOf K w σ H (fun x H' => ∃ k, x = .bl k ∧ Q k H') := fun ⟨Γ, M, P, Φ, s, a, h, q⟩ =>
  ⟨Γ, M, P, _, s, a, h, fun d M1 ⟨k, e, hk⟩ v P1 H1 g r => by
    subst e
    cases r
    exact ⟨k, rfl, q k M1 hk P1 H1 g⟩⟩

section
variable {X : Cx} {a b c : Expr} {wa wb wc : WE} {pos : Pos}
theorem d_op {op : Operator} {r : AR2} (ho : OpR X (binaryOp op) (rOf X.K r)) (ha : PD X a wa) (hb : PD X b wb) : PD X (.BinOp a op b pos) (wOp r wa wb) := PE.weak (pe_op ho ha hb) two
theorem d_cmp {op : CmpOp} {r : AR2} (ho : OpR X (compareOp op) (rOf X.K r)) (ha : PD X a wa) (hb : PD X b wb) (hm : behindInMarks op b = false := by first | exact nomark _ | rfl) : PD X (.Compare a [op] [b] pos) (wOp r wa wb) := PE.weak (pe_cmpR ho ha hb hm) two
theorem dt_cmp {op : CmpOp} {r : AR2} (ho : OpR X (compareOp op) (rOf X.K r)) (ha : PD X a wa) (hb : PD X b wb) (hm : behindInMarks op b = false := by first | exact nomark _ | rfl) : PDT X (.Compare a [op] [b] pos) (wTest (wOp r wa wb)) :=
  PT.weak (pt_cmpR ho ha hb hm) fun σ H Q h => two σ H _ (test_of σ H Q h)
def wChain (r r' : AR2) (a b c : WE) : WE := fun Γ M Φ => a Γ M fun x M1 => b Γ M1 fun y M2 => r x y M2 fun z M3 => ∃ k, z = .bl k ∧ (k = true → c Γ M3 fun w M4 => r' y w M4 Φ) ∧ (k = false → Φ (.bl false) M3)
theorem chain_of {K : PySem.W.Frag} {r r' : AR2} (σ : St) (H : Hp) (Q : VK) : tOf K (wChain r r' wa wb wc) σ H Q → tChain (rOf K r) (rOf K r') (tOf K wa) (tOf K wb) (tOf K wc) σ H Q := fun ⟨Γ, M, P, Φ, s, a, h, q⟩ =>
  ⟨Γ, M, P, _, s, a, h, fun d1 M1 h1 v1 P1 H1 g1 r1 => ⟨Γ, M1, P1, _, s.up g1.le, g1.sat, h1, fun d2 M2 h2 v2 P2 H2 g2 r2 => ⟨d1, d2, M2, P2, _, r1.up g2.le, r2, g2.sat, h2, fun d3 M3 ⟨k, e, hk1, hk2⟩ v3 P3 H3 g3 r3 => by
    subst e
    cases r3
    refine ⟨k, rfl, ?_⟩
    cases k with
    | true =>
      rw [if_pos rfl]
      exact ⟨Γ, M3, P3, _, s.up ((g1.le.trans g2.le).trans g3.le), g3.sat, hk1 rfl, fun d4 M4 h4 v4 P4 H4 g4 r4 => ⟨d2, d4, M4, P4, Φ, r2.up (g3.le.trans g4.le), r4, g4.sat, h4, q.mk (((g1.trans g2).trans g3).trans g4)⟩⟩
    | false =>
      rw [if_neg Bool.false_ne_true]
      exact (q.mk ((g1.trans g2).trans g3)).here g3.sat (hk2 rfl) (.bl false)⟩⟩⟩
theorem d_chain {op op' : CmpOp} {r r' : AR2} (ho : OpR X (compareOp op) (rOf X.K r)) (ho' : OpR X (compareOp op') (rOf X.K r')) (ha : PD X a wa) (hb : PD X b wb) (hc : PD X c wc) (hm : lastMarks [op, op'] [b, c] = false := by rfl) : PD X (.Compare a [op, op'] [b, c] pos) (wChain r r' wa wb wc) :=
  PE.weak (pe_chain ho ho' ha hb hc hm) chain_of
theorem dt_chain {op op' : CmpOp} {r r' : AR2} (ho : OpR X (compareOp op) (rOf X.K r)) (ho' : OpR X (compareOp op') (rOf X.K r')) (ha : PD X a wa) (hb : PD X b wb) (hc : PD X c wc) (hm : lastMarks [op, op'] [b, c] = false := by rfl) : PDT X (.Compare a [op, op'] [b, c] pos) (wTest (wChain r r' wa wb wc)) :=
  PT.weak (pt_chain ho ho' ha hb hc hm) fun σ H Q h => chain_of σ H _ (test_of σ H Q h)
end

def aInt (g : Int → Int → D) : AR2 := fun x y M Φ => ∃ i j, x = .int i ∧ y = .int j ∧ Φ (g i j) M
def aIntC (C : Int → Int → Prop) (g : Int → Int → D) : AR2 := fun x y M Φ => ∃ i j, x = .int i ∧ y = .int j ∧ C i j ∧ Φ (g i j) M
section
variable {X : Cx}
theorem o_int {f : Value → Value → Sem Value} {g : Int → Int → V} {g' : Int → Int → D} (h : OpR X f (rI0 g)) (k : ∀ K P i j, Rep K P (g i j) (g' i j)) : OpR X f (rOf X.K (aInt g')) :=
  OpR.weak h fun x y H Q ⟨d, e, M, P, Φ, r1, r2, s, ⟨i, j, e1, e2, h⟩, q⟩ => by
    subst e1 e2
    cases r1
    cases r2
    exact ⟨i, j, rfl, rfl, q.here s h (k _ _ _ _)⟩
theorem o_intC {f : Value → Value → Sem Value} {C : Int → Int → Prop} {g : Int → Int → V} {g' : Int → Int → D} (h : OpR X f (rI C g)) (k : ∀ K P i j, Rep K P (g i j) (g' i j)) : OpR X f (rOf X.K (aIntC C g')) :=
  OpR.weak h fun x y H Q ⟨d, e, M, P, Φ, r1, r2, s, ⟨i, j, e1, e2, hc, h⟩, q⟩ => by
    subst e1 e2
    cases r1
    cases r2
    exact ⟨i, j, rfl, rfl, hc, q.here s h (k _ _ _ _)⟩
theorem o_sub : OpR X (binaryOp .Sub) (rOf X.K (aInt fun i j => .int (i - j))) := o_int op_sub fun _ _ _ _ => .int _
theorem o_mul : OpR X (binaryOp .Mult) (rOf X.K (aIntC CMul fun i j => .int (i * j))) := o_intC op_mul fun _ _ _ _ => .int _
theorem o_fdiv : OpR X (binaryOp .FloorDiv) (rOf X.K (aIntC CDiv fun i j => .int (i / j))) := o_intC op_fdiv fun _ _ _ _ => .int _
theorem o_mod : OpR X (binaryOp .Mod) (rOf X.K (aIntC (fun _ j => 0 < j) fun i j => .int (i % j))) := o_intC op_mod fun _ _ _ _ => .int _
theorem o_pow : OpR X (binaryOp .Pow) (rOf X.K (aIntC CPow fun i j => .int (i ^ j.toNat))) := o_intC op_pow fun _ _ _ _ => .int _
theorem o_le : OpR X (compareOp .LtE) (rOf X.K (aInt fun i j => .bl (decide (i ≤ j)))) := o_int op_le fun _ _ _ _ => .bl _

/-- + -/
def aAdd : AR2 := fun x y M Φ => match x, y with
  | .int i, .int j => Φ (.int (i + j)) M
  | .str s, .str t => s.length + t.length ≤ sizeLine ∧ Φ (.str (s ++ t)) M
  | .tup xs, .tup ys => xs.length + ys.length ≤ sizeLine ∧ Φ (.tup (xs ++ ys)) M
  | .lst xs, .lst ys => xs.length + ys.length ≤ sizeLine ∧ Φ (.lst (xs ++ ys)) M
  | _, _ => False
def rAddAll (K : PySem.W.Frag) : R2 := fun x y H Q => (rI0 fun i j => .int (i + j)) x y H Q ∨ (∃ i j, x = .str i ∧ y = .str j ∧ i.length + j.length ≤ sizeLine ∧ Q (.str (i ++ j)) H) ∨ rCatA K x y H Q ∨ rCat x y H Q
theorem o_add : OpR X (binaryOp .Add) (rOf X.K aAdd) :=
  OpR.weak (r := rAddAll X.K) (OpR.or op_add (OpR.or op_add_str (OpR.or op_catA op_cat))) fun x y H Q ⟨d, e, M, P, Φ, r1, r2, s, h, q⟩ => by
    unfold aAdd at h
    split at h
    · cases r1; cases r2
      exact .inl ⟨_, _, rfl, rfl, q.here s h (.int _)⟩
    · cases r1; cases r2
      exact .inr (.inl ⟨_, _, rfl, rfl, h.1, q.here s h.2 (.str _)⟩)
    · cases r1 with
      | tup t1 a1 =>
        cases r2 with
        | tup t2 a2 =>
          have l1 := a1.length
          have l2 := a2.length
          refine .inr (.inr (.inl ⟨_, _, _, _, rfl, rfl, SqT.of ((s.sub).tup t1), SqT.of ((s.sub).tup t2), by rw [l1, l2]; exact h.1, fun z => ?_, fun z z2 => ?_, fun z z2 p hp => ?_⟩))
          · subst z
            cases a1
            exact q.here s h.2 (.tup t2 a2)
          · subst z2
            cases a2
            refine q.here s h.2 ?_
            rw [List.append_nil]
            exact .tup t1 a1
          · exact q _ _ h.2 _ _ _ (Grow.laid s hp) (.tup upd_same ((a1.up (Le.new (s.sub.free hp))).append (a2.up (Le.new (s.sub.free hp)))))
    · cases r1 with
      | lst t1 a1 =>
        cases r2 with
        | lst t2 a2 =>
          have l1 := a1.length
          have l2 := a2.length
          refine .inr (.inr (.inr ⟨_, _, _, _, rfl, rfl, (s.sub).lst t1, (s.sub).lst t2, by rw [l1, l2]; exact h.1, fun p hp => ?_⟩))
          exact q _ _ h.2 _ _ _ (Grow.laid s hp) (.lst upd_same ((a1.up (Le.new (s.sub.free hp))).append (a2.up (Le.new (s.sub.free hp)))))
    · exact h.elim
end

mutual
def D.py : D → PyData
  | .non => .none
  | .bl b => .bool b
  | .int i => .int i
  | .str x => .str x
  | .tup ds => .tuple (D.pyAll ds)
  | .lst ds => .list (D.pyAll ds)
  | _ => .none
def D.pyAll : List D → List PyData
  | [] => []
  | d :: ds => d.py :: D.pyAll ds
end
mutual
/-- none, ints, texts, tuples and lists of them: no bools (a bool may be equal to an int) -/
def D.plain : D → Bool
  | .non => true
  | .int _ => true
  | .str x => PyData.strOk x
  | .tup ds => D.plainAll ds
  | .lst ds => D.plainAll ds
  | _ => false
def D.plainAll : List D → Bool
  | [] => true
  | d :: ds => d.plain && D.plainAll ds
end
mutual
def D.deep : D → Nat
  | .tup ds => D.deepAll ds + 1
  | .lst ds => D.deepAll ds + 1
  | _ => 0
def D.deepAll : List D → Nat
  | [] => 0
  | d :: ds => max d.deep (D.deepAll ds)
end
theorem D.pyAll_map : ∀ ds : List D, D.pyAll ds = ds.map D.py
  | [] => by simp [D.pyAll]
  | d :: ds => by simp [D.pyAll, D.pyAll_map ds]
theorem D.plainAll_iff : ∀ ds : List D, D.plainAll ds = ds.all D.plain
  | [] => by simp [D.plainAll]
  | d :: ds => by simp [D.plainAll, D.plainAll_iff ds]
mutual
theorem D.depth_py : ∀ d : D, (D.py d).depth ≤ D.deep d
  | .non => by simp [D.py, PyData.depth]
  | .bl b => by simp [D.py, PyData.depth]
  | .int i => by simp [D.py, PyData.depth]
  | .str x => by simp [D.py, PyData.depth]
  | .tup ds => by
    have := D.depthAll_py ds
    simp [D.py, PyData.depth, D.deep]; omega
  | .lst ds => by
    have := D.depthAll_py ds
    simp [D.py, PyData.depth, D.deep]; omega
  | .dic _ _ => by simp [D.py, PyData.depth]
  | .rcd _ _ _ => by simp [D.py, PyData.depth]
  | .scr _ => by simp [D.py, PyData.depth]
  | .op _ => by simp [D.py, PyData.depth]
theorem D.depthAll_py : ∀ ds : List D, PyData.depthAll (D.pyAll ds) ≤ D.deepAll ds
  | [] => by simp [D.pyAll, PyData.depthAll]
  | d :: ds => by
    have h1 := D.depth_py d
    have h2 := D.depthAll_py ds
    simp [D.pyAll, PyData.depthAll, D.deepAll]; omega
end
mutual
theorem D.lay_py : ∀ d : D, D.plain d = true → (D.py d).canLay0 = true
  | .non, _ => by simp [D.py, PyData.canLay0]
  | .bl b, h => by simp [D.plain] at h
  | .int i, _ => by simp [D.py, PyData.canLay0]
  | .str x, h => by simp [D.py, PyData.canLay0]; simpa [D.plain] using h
  | .tup ds, h => by simp [D.py, PyData.canLay0]; exact D.layAll_py ds (by simpa [D.plain] using h)
  | .lst ds, h => by simp [D.py, PyData.canLay0]; exact D.layAll_py ds (by simpa [D.plain] using h)
  | .dic _ _, h => by simp [D.plain] at h
  | .rcd _ _ _, h => by simp [D.plain] at h
  | .scr _, h => by simp [D.plain] at h
  | .op _, h => by simp [D.plain] at h
theorem D.layAll_py : ∀ ds : List D, D.plainAll ds = true → PyData.canLayAll0 (D.pyAll ds) = true
  | [], _ => by simp [D.pyAll, PyData.canLayAll0]
  | d :: ds, h => by
    simp [D.plainAll] at h
    simp [D.pyAll, PyData.canLayAll0, D.lay_py d h.1, D.layAll_py ds h.2]
end
mutual
theorem D.rep_py {K : PySem.W.Frag} {P : Hp} : ∀ (d : D) (v : V), D.plain d = true → Rep K P v d → Dp K P v (D.py d)
  | .non, _, _, r => by cases r; simp only [D.py]; exact .non
  | .bl b, _, h, _ => by simp [D.plain] at h
  | .int i, _, _, r => by cases r; simp only [D.py]; exact .int i
  | .str x, _, _, r => by cases r; simp only [D.py]; exact .str x
  | .tup ds, _, h, r => by
    cases r with
    | tup t a =>
      simp only [D.py]
      exact .tup (SqT.of t) (D.repAll_py ds _ (by simpa [D.plain] using h) a)
  | .lst ds, _, h, r => by
    cases r with
    | lst t a =>
      simp only [D.py]
      exact .lst (SqL.of t) (D.repAll_py ds _ (by simpa [D.plain] using h) a)
  | .dic _ _, _, h, _ => by simp [D.plain] at h
  | .rcd _ _ _, _, h, _ => by simp [D.plain] at h
  | .scr _, _, h, _ => by simp [D.plain] at h
  | .op _, _, h, _ => by simp [D.plain] at h
theorem D.repAll_py {K : PySem.W.Frag} {P : Hp} : ∀ (ds : List D) (vs : List V), D.plainAll ds = true → RepAll K P vs ds → DpAll K P vs (D.pyAll ds)
  | [], _, _, r => by cases r; simp only [D.pyAll]; exact .nil
  | d :: ds, _, h, r => by
    cases r with
    | cons r1 r2 =>
      simp [D.plainAll] at h
      simp only [D.pyAll]
      exact .cons (D.rep_py d _ h.1 r1) (D.repAll_py ds _ h.2 r2)
end
mutual
theorem dp_up {K : PySem.W.Frag} {P H : Hp} (e : Le P H) : ∀ (d : PyData) (v : V), Dp K P v d → Dp K H v d
  | .none, _, h => by cases h; exact .non
  | .bool b, _, h => by cases h; exact .bl b
  | .int i, _, h => by cases h; exact .int i
  | .str x, _, h => by cases h; exact .str x
  | .list ds, _, h => by
    cases h with
    | lst h1 h2 => exact .lst (e.sqL h1) (dpAll_up e ds _ h2)
  | .tuple ds, _, h => by
    cases h with
    | tup h1 h2 => exact .tup (e.sqT h1) (dpAll_up e ds _ h2)
  | .dict _, _, h => by cases h
theorem dpAll_up {K : PySem.W.Frag} {P H : Hp} (e : Le P H) : ∀ (ds : List PyData) (vs : List V), DpAll K P vs ds → DpAll K H vs ds
  | [], _, h => by cases h; exact .nil
  | d :: ds, _, h => by
    cases h with
    | cons h1 h2 => exact .cons (dp_up e d _ h1) (dpAll_up e ds _ h2)
end
mutual
theorem D.eqv_py : ∀ (d e : D), D.plain d = true → D.plain e = true → (PyData.eqv (D.py d) (D.py e) = true ↔ d = e)
  | .non, e, _, h => by cases e <;> simp [D.plain] at h <;> simp [D.py, PyData.eqv]
  | .bl b, _, h, _ => by simp [D.plain] at h
  | .int i, e, _, h => by cases e <;> simp [D.plain] at h <;> simp [D.py, PyData.eqv]
  | .str x, e, _, h => by cases e <;> simp [D.plain] at h <;> simp [D.py, PyData.eqv]
  | .tup ds, e, hd, h => by
    cases e <;> simp [D.plain] at h hd <;> simp [D.py, PyData.eqv]
    exact D.eqvAll_py ds _ hd h
  | .lst ds, e, hd, h => by
    cases e <;> simp [D.plain] at h hd <;> simp [D.py, PyData.eqv]
    exact D.eqvAll_py ds _ hd h
  | .dic _ _, _, h, _ => by simp [D.plain] at h
  | .rcd _ _ _, _, h, _ => by simp [D.plain] at h
  | .scr _, _, h, _ => by simp [D.plain] at h
  | .op _, _, h, _ => by simp [D.plain] at h
theorem D.eqvAll_py : ∀ (ds es : List D), D.plainAll ds = true → D.plainAll es = true → (PyData.eqvAll (D.pyAll ds) (D.pyAll es) = true ↔ ds = es)
  | [], [], _, _ => by simp [D.pyAll, PyData.eqvAll]
  | [], e :: es, _, _ => by simp [D.pyAll, PyData.eqvAll]
  | d :: ds, [], _, _ => by simp [D.pyAll, PyData.eqvAll]
  | d :: ds, e :: es, hd, he => by
    simp [D.plainAll] at hd he
    have h1 := D.eqv_py d e hd.1 he.1
    have h2 := D.eqvAll_py ds es hd.2 he.2
    simp [D.pyAll, PyData.eqvAll, h1, h2]
end
/-- may be compared by == with another such -/
def D.eqOk (d : D) : Prop := D.plain d = true ∧ D.deep d ≤ 64
theorem D.eqOk.shaped {d : D} (h : D.eqOk d) : SeqAt.shaped (D.py d) = true := by
  unfold SeqAt.shaped
  have := D.depth_py d
  have := h.2
  rw [D.lay_py d h.1]
  simp
  omega
open Classical in
noncomputable def D.eqb (d e : D) : Bool := decide (d = e)
theorem D.eqb_py {d e : D} (hd : D.eqOk d) (he : D.eqOk e) : PyData.eqv (D.py d) (D.py e) = D.eqb d e := by
  have h := D.eqv_py d e hd.1 he.1
  unfold D.eqb
  by_cases c : d = e
  · rw [h.mpr c]; simp [c]
  · have : PyData.eqv (D.py d) (D.py e) ≠ true := fun z => c (h.mp z)
    simp [c, Bool.eq_false_iff.mpr this]
theorem D.eqb_true {d e : D} : D.eqb d e = true ↔ d = e := by unfold D.eqb; simp
theorem D.eqb_false {d e : D} : D.eqb d e = false ↔ d ≠ e := by unfold D.eqb; simp
/-- the data of a value: itself, or an owned list as it stands -/
inductive Now (M : Mp) : D → D → Prop
  | self (d : D) : Now M d d
  | lst {a : Addr} {ds : List D} : (a, MO.lst ds) ∈ M → Now M (.op (.ref a)) (.lst ds)
theorem Now.dp {K : PySem.W.Frag} {P H : Hp} {M : Mp} {d e : D} {v : V} (s : Sat K P M H) (n : Now M d e) (r : Rep K P v d) (h : D.plain e = true) : Dp K H v (D.py e) := by
  cases n with
  | self => exact dp_up s.sub _ _ (D.rep_py _ v h r)
  | lst m =>
    cases r
    obtain ⟨_, vs, h1, h2⟩ := s.ob _ _ m
    simp only [D.py]
    exact .lst (SqL.of h1) (dpAll_up s.sub _ _ (D.repAll_py _ _ (by simpa [D.plain] using h) h2))
theorem Now.sqL {K : PySem.W.Frag} {P H : Hp} {M : Mp} {d : D} {ds : List D} {v : V} (s : Sat K P M H) (n : Now M d (.lst ds)) (r : Rep K P v d) : ∃ a vs, v = .ref a ∧ H a = some (.lst vs) ∧ RepAll K P vs ds := by
  cases n with
  | self =>
    cases r with
    | lst t a => exact ⟨_, _, rfl, s.sub.lst t, a⟩
  | lst m =>
    cases r
    obtain ⟨_, vs, h1, h2⟩ := s.ob _ _ m
    exact ⟨_, vs, rfl, h1, h2⟩

section
variable {X : Cx}
/-- == -/
def aEq : AR2 := fun x y M Φ => ∃ d e, Now M x d ∧ Now M y e ∧ D.eqOk d ∧ D.eqOk e ∧ Φ (.bl (D.eqb d e)) M
def aNe : AR2 := fun x y M Φ => ∃ d e, Now M x d ∧ Now M y e ∧ D.eqOk d ∧ D.eqOk e ∧ Φ (.bl (!D.eqb d e)) M
theorem o_eq (hu : X.A.units + 64 < cLine) : OpR X (compareOp .Eq) (rOf X.K aEq) := OpR.weak (op_eqD hu) fun x y H Q ⟨dx, dy, M, P, Φ, r1, r2, s, ⟨d, e, n1, n2, k1, k2, h⟩, q⟩ =>
  ⟨_, _, n1.dp s r1 k1.1, n2.dp s r2 k2.1, k1.shaped, k2.shaped, by rw [D.eqb_py k1 k2]; exact q.here s h (.bl _)⟩
theorem o_ne (hu : X.A.units + 64 < cLine) : OpR X (compareOp .NotEq) (rOf X.K aNe) := OpR.weak (op_neD hu) fun x y H Q ⟨dx, dy, M, P, Φ, r1, r2, s, ⟨d, e, n1, n2, k1, k2, h⟩, q⟩ =>
  ⟨_, _, n1.dp s r1 k1.1, n2.dp s r2 k2.1, k1.shaped, k2.shaped, by rw [D.eqb_py k1 k2]; exact q.here s h (.bl _)⟩
/-- in a list of data -/
def aIn (neg : Bool) : AR2 := fun x y M Φ => ∃ ds, Now M y (.lst ds) ∧ D.eqOk x ∧ D.eqOk (.lst ds) ∧ Φ (.bl (if neg then !ds.any fun z => D.eqb z x else ds.any fun z => D.eqb z x)) M
theorem any_py {x : D} (hx : D.eqOk x) : ∀ {ds : List D}, (∀ d ∈ ds, D.eqOk d) → ((D.pyAll ds).any fun z => PyData.eqv z (D.py x)) = ds.any fun z => D.eqb z x
  | [], _ => by simp [D.pyAll]
  | d :: ds, h => by
    simp only [D.pyAll, List.any_cons]
    rw [D.eqb_py (h d (by simp)) hx, any_py hx fun e he => h e (by simp [he])]
theorem D.deep_mem : ∀ {ds : List D} {d : D}, d ∈ ds → D.deep d ≤ D.deepAll ds
  | e :: ds, d, h => by
    simp only [D.deepAll]
    rcases List.mem_cons.mp h with z | z
    · subst z; omega
    · have := D.deep_mem z; omega
theorem D.eqOk.mem {ds : List D} (h : D.eqOk (.lst ds)) : ∀ d ∈ ds, D.eqOk d := fun d hd => by
  obtain ⟨h1, h2⟩ := h
  simp only [D.plain, D.plainAll_iff, List.all_eq_true] at h1
  simp only [D.deep] at h2
  have := D.deep_mem hd
  exact ⟨h1 d hd, by omega⟩
theorem o_in (hu : X.A.units + 65 < cLine) : OpR X (compareOp .In) (rOf X.K (aIn false)) := OpR.weak (op_inD hu) fun x y H Q ⟨dx, dy, M, P, Φ, r1, r2, s, ⟨ds, n, k1, k2, h⟩, q⟩ => by
  have n' := n.dp s r2 k2.1
  simp only [D.py] at n'
  have sh := k2.shaped
  simp only [D.py] at sh
  refine ⟨_, _, (Now.self (M := M) dx).dp s r1 k1.1, n', k1.shaped, sh, ?_⟩
  rw [any_py k1 k2.mem]
  exact q.here s h (.bl _)
theorem o_notIn (hu : X.A.units + 65 < cLine) : OpR X (compareOp .NotIn) (rOf X.K (aIn true)) := OpR.weak (op_notInD hu) fun x y H Q ⟨dx, dy, M, P, Φ, r1, r2, s, ⟨ds, n, k1, k2, h⟩, q⟩ => by
  have n' := n.dp s r2 k2.1
  simp only [D.py] at n'
  have sh := k2.shaped
  simp only [D.py] at sh
  refine ⟨_, _, (Now.self (M := M) dx).dp s r1 k1.1, n', k1.shaped, sh, ?_⟩
  rw [any_py k1 k2.mem]
  exact q.here s h (.bl _)
/-- a sign in a text -/
def aInSign : AR2 := fun x y M Φ => ∃ (c : Nat) (z : Str), x = .str ⟨#[c]⟩ ∧ y = .str z ∧ Φ (.bl (decide (c ∈ z.cps.toList))) M
theorem o_inSign : OpR X (compareOp .In) (rOf X.K aInSign) := OpR.weak op_in_sign fun x y H Q ⟨dx, dy, M, P, Φ, r1, r2, s, ⟨c, z, e1, e2, h⟩, q⟩ => by
  subst e1 e2
  cases r1; cases r2
  exact ⟨c, z, rfl, rfl, q.here s h (.bl _)⟩
/-- a key in the module's own dict (text keys) -/
def aNotInK (K : PySem.W.Frag) (d : Addr) : AR2 := fun x y M Φ => ∃ (z : Str) (r : Option Value), x = .str z ∧ y = .op (.ref d) ∧ PySem.W.nsIn K d z = some r ∧ Φ (.bl (!r.isSome)) M
theorem o_notInK {d : Addr} {es : Array DictEntry} {n : Nat} (Dd : KDict X.K X.w d es n) : OpR X (compareOp .NotIn) (rOf X.K (aNotInK X.K d)) := OpR.weak (op_notIn_kd Dd) fun x y H Q ⟨dx, dy, M, P, Φ, r1, r2, s, ⟨z, r, e1, e2, e3, h⟩, q⟩ => by
  subst e1 e2
  cases r1; cases r2
  exact ⟨z, r, rfl, rfl, e3, q.here s h (.bl _)⟩
theorem RepAll.ints {K : PySem.W.Frag} {P : Hp} : ∀ {ns : List Int} {vs : List V}, RepAll K P vs (ns.map D.int) → vs = ns.map V.int
  | [], _, h => by cases h; rfl
  | n :: ns, _, h => by
    cases h with
    | cons h1 h2 => cases h1; rw [RepAll.ints h2]; rfl
/-- < -/
def aLt : AR2 := fun x y M Φ => (∃ i j, x = .int i ∧ y = .int j ∧ Φ (.bl (decide (i < j))) M) ∨ ∃ ns ms : List Int, x = .tup (ns.map .int) ∧ y = .tup (ms.map .int) ∧ Φ (.bl (HT.lexLt ns ms)) M
theorem o_lt (hu : X.A.units < cLine) : OpR X (compareOp .Lt) (rOf X.K aLt) := OpR.weak (OpR.or op_lt (op_ltT hu)) fun x y H Q ⟨dx, dy, M, P, Φ, r1, r2, s, h, q⟩ => by
  rcases h with ⟨i, j, e1, e2, h⟩ | ⟨ns, ms, e1, e2, h⟩
  · subst e1 e2
    cases r1; cases r2
    exact .inl ⟨i, j, rfl, rfl, q.here s h (.bl _)⟩
  · subst e1 e2
    cases r1 with
    | tup t1 a1 =>
      cases r2 with
      | tup t2 a2 =>
        refine .inr ⟨_, _, ns, ms, rfl, rfl, ?_, ?_, q.here s h (.bl _)⟩
        · rw [← RepAll.ints a1]; exact SqT.of (s.sub.tup t1)
        · rw [← RepAll.ints a2]; exact SqT.of (s.sub.tup t2)
theorem o_gt : OpR X (compareOp .Gt) (rOf X.K (aInt fun i j => .bl (decide (j < i)))) := o_int op_gt fun _ _ _ _ => .bl _
end
end NF
namespace NF
open PySem L2

section
variable {X : Cx} {a b c : Expr} {wa wb wc : WE} {ta tb tc : WT} {rest : List Expr} {pos : Pos}
def wAndV (a b : WE) : WE := fun Γ M Φ => a Γ M fun x M1 => ∃ c, x = .bl c ∧ (c = true → b Γ M1 Φ) ∧ (c = false → Φ (.bl false) M1)
def wOrV (a b : WE) : WE := fun Γ M Φ => a Γ M fun x M1 => ∃ c, x = .bl c ∧ (c = true → Φ (.bl true) M1) ∧ (c = false → b Γ M1 Φ)
def wNotV (a : WE) : WE := fun Γ M Φ => a Γ M fun x M1 => ∃ c, x = .bl c ∧ Φ (.bl (!c)) M1
def wAnd (a b : WT) : WT := fun Γ M Ψ => a Γ M fun c M1 => (c = true → b Γ M1 Ψ) ∧ (c = false → Ψ false M1)
def wOr (a b : WT) : WT := fun Γ M Ψ => a Γ M fun c M1 => (c = true → Ψ true M1) ∧ (c = false → b Γ M1 Ψ)
def wNot (a : WT) : WT := fun Γ M Ψ => a Γ M fun c M1 => Ψ (!c) M1
def wIf (t : WT) (a b : WE) : WE := fun Γ M Φ => t Γ M fun c M1 => (c = true → a Γ M1 Φ) ∧ (c = false → b Γ M1 Φ)
theorem d_one {op} (h : PD X a wa) : PD X (.BoolOp op [a] pos) wa := pe_one h
theorem d_and (ha : PD X a wa) (hb : PD X (.BoolOp .And (b :: rest) pos) wb) : PD X (.BoolOp .And (a :: b :: rest) pos) (wAndV wa wb) := PE.weak (pe_and ha hb) fun σ H Q ⟨Γ, M, P, Φ, s, a, h, q⟩ =>
  ⟨Γ, M, P, _, s, a, h, fun d1 M1 ⟨c, e, h1, h2⟩ v1 P1 H1 g1 r1 => by
    subst e
    cases r1
    refine ⟨c, rfl, ?_⟩
    cases c with
    | true => rw [if_pos rfl]; exact ⟨Γ, M1, P1, _, s.up g1.le, g1.sat, h1 rfl, q.mk g1⟩
    | false => rw [if_neg Bool.false_ne_true]; exact (q.mk g1).here g1.sat (h2 rfl) (.bl _)⟩
theorem d_or (ha : PD X a wa) (hb : PD X (.BoolOp .Or (b :: rest) pos) wb) : PD X (.BoolOp .Or (a :: b :: rest) pos) (wOrV wa wb) := PE.weak (pe_or ha hb) fun σ H Q ⟨Γ, M, P, Φ, s, a, h, q⟩ =>
  ⟨Γ, M, P, _, s, a, h, fun d1 M1 ⟨c, e, h1, h2⟩ v1 P1 H1 g1 r1 => by
    subst e
    cases r1
    refine ⟨c, rfl, ?_⟩
    cases c with
    | true => rw [if_pos rfl]; exact (q.mk g1).here g1.sat (h1 rfl) (.bl _)
    | false => rw [if_neg Bool.false_ne_true]; exact ⟨Γ, M1, P1, _, s.up g1.le, g1.sat, h2 rfl, q.mk g1⟩⟩
theorem d_not (ha : PD X a wa) : PD X (.UnaryOp .Not a pos) (wNotV wa) := PE.weak (pe_not ha) fun σ H Q ⟨Γ, M, P, Φ, s, a, h, q⟩ =>
  ⟨Γ, M, P, _, s, a, h, fun d1 M1 ⟨c, e, h1⟩ v1 P1 H1 g1 r1 => by
    subst e
    cases r1
    exact ⟨c, rfl, (q.mk g1).here g1.sat h1 (.bl _)⟩⟩
theorem dw_and1 (ha : PDT X a ta) : PDW X (.BoolOp .And [a] pos) ta := pw_and1 ha
theorem dw_or1 (ha : PDT X a ta) : PDW X (.BoolOp .Or [a] pos) ta := pw_or1 ha
theorem dw_and (ha : PDT X a ta) (hb : PDW X (.BoolOp .And (b :: rest) pos) tb) : PDW X (.BoolOp .And (a :: b :: rest) pos) (wAnd ta tb) := PW.weak (pw_and ha hb) fun σ H Q ⟨Γ, M, P, Φ, s, a, h, q⟩ =>
  ⟨Γ, M, P, _, s, a, h, fun c M1 ⟨h1, h2⟩ P1 H1 g1 => by
    cases c with
    | true => rw [if_pos rfl]; exact ⟨Γ, M1, P1, _, s.up g1.le, g1.sat, h1 rfl, q.mk g1⟩
    | false => rw [if_neg Bool.false_ne_true]; exact q _ _ (h2 rfl) _ _ g1⟩
theorem dw_or (ha : PDT X a ta) (hb : PDW X (.BoolOp .Or (b :: rest) pos) tb) : PDW X (.BoolOp .Or (a :: b :: rest) pos) (wOr ta tb) := PW.weak (pw_or ha hb) fun σ H Q ⟨Γ, M, P, Φ, s, a, h, q⟩ =>
  ⟨Γ, M, P, _, s, a, h, fun c M1 ⟨h1, h2⟩ P1 H1 g1 => by
    cases c with
    | true => rw [if_pos rfl]; exact q _ _ (h1 rfl) _ _ g1
    | false => rw [if_neg Bool.false_ne_true]; exact ⟨Γ, M1, P1, _, s.up g1.le, g1.sat, h2 rfl, q.mk g1⟩⟩
theorem dt_not (ha : PDT X a ta) : PDT X (.UnaryOp .Not a pos) (wNot ta) := PT.weak (pt_not ha) fun σ H Q ⟨Γ, M, P, Φ, s, a, h, q⟩ =>
  ⟨Γ, M, P, _, s, a, h, fun c M1 h1 P1 H1 g1 => q _ _ h1 _ _ g1⟩
theorem d_if (hc : PDT X c tc) (ha : PD X a wa) (hb : PD X b wb) : PD X (.IfExp c a b pos) (wIf tc wa wb) := PE.weak (pe_ifExp hc ha hb) fun σ H Q ⟨Γ, M, P, Φ, s, a, h, q⟩ =>
  ⟨Γ, M, P, _, s, a, h, fun c M1 ⟨h1, h2⟩ P1 H1 g1 => by
    cases c with
    | true => rw [if_pos rfl]; exact ⟨Γ, M1, P1, _, s.up g1.le, g1.sat, h1 rfl, q.mk g1⟩
    | false => rw [if_neg Bool.false_ne_true]; exact ⟨Γ, M1, P1, _, s.up g1.le, g1.sat, h2 rfl, q.mk g1⟩⟩
/-- truth of any data -/
def TruD (M : Mp) (d : D) (k : Bool) : Prop := match d with
  | .non => k = false
  | .bl b => k = b
  | .int i => k = (i != 0)
  | .str x => x.length ≤ sizeLine ∧ k = ((x.length : Int) != 0)
  | .lst ds => k = !ds.isEmpty
  | .tup ds => k = !ds.isEmpty
  | .scr ns => k = !ns.isEmpty
  | .op (.ref a) => ∃ ds, (a, MO.lst ds) ∈ M ∧ k = !ds.isEmpty
  | _ => False
theorem isEmpty_rep {K : PySem.W.Frag} {P : Hp} {vs : List V} {ds : List D} (r : RepAll K P vs ds) : vs.isEmpty = ds.isEmpty := by
  cases r <;> rfl
theorem TruD.v {K : PySem.W.Frag} {P H : Hp} {M : Mp} {d : D} {k : Bool} {v : V} (s : Sat K P M H) (r : Rep K P v d) (t : TruD M d k) : TruV K v H k := by
  cases d with
  | non => cases r; exact t
  | bl b => cases r; exact t
  | int i => cases r; exact t
  | str x => cases r; exact t
  | lst ds =>
    cases r with
    | lst h a => exact .inl ⟨_, SqL.of (s.sub.lst h), by rw [isEmpty_rep a]; exact t⟩
  | tup ds =>
    cases r with
    | tup h a => exact .inr (.inl ⟨_, SqT.of (s.sub.tup h), by rw [isEmpty_rep a]; exact t⟩)
  | scr ns =>
    cases r with
    | scr _ h => exact .inl ⟨_, s.sub.sqL h, by
        have t' : k = !ns.isEmpty := t
        rw [t']
        cases ns <;> rfl⟩
  | op w =>
    cases r
    cases v with
    | ref a =>
      obtain ⟨ds, m, e⟩ := t
      obtain ⟨_, vs, h1, h2⟩ := s.ob _ _ m
      exact .inl ⟨_, SqL.of h1, by rw [isEmpty_rep h2]; exact e⟩
    | _ => exact False.elim t
  | _ => exact False.elim t
def wTruth (w : WE) : WT := fun Γ M Ψ => w Γ M fun d M' => ∃ k, TruD M' d k ∧ Ψ k M'
theorem dt_truth (ha : PD X a wa) (he : ∀ whole, isTrue a X.env whole = (do let v ← whole; standAt a.pos; holding [v] (truthy v)) := by intro _; rfl) : PDT X a (wTruth wa) := PT.weak (pt_truth ha he) fun σ H Q ⟨Γ, M, P, Φ, s, a, h, q⟩ =>
  ⟨Γ, M, P, _, s, a, h, fun d M1 ⟨k, t, hk⟩ v P1 H1 g r => ⟨k, t.v g.sat r, q _ _ hk _ _ g⟩⟩
end

section
variable {X : Cx} {e : Expr} {es : List Expr} {we : WE} {wa : WA} {pos : Pos}
def wNil : WA := fun _ M Φ => Φ [] M
def wCons (w : WE) (r : WA) : WA := fun Γ M Φ => w Γ M fun d M1 => r Γ M1 fun ds M2 => Φ (d :: ds) M2
theorem da_nil : PDA X [] wNil := PA.weak pa_nil fun σ H Q ⟨Γ, M, P, Φ, s, a, h, q⟩ => q [] M h [] P H (Grow.refl a) .nil
theorem da_cons (ha : PD X e we) (hr : PDA X es wa) (hs : starEach (e :: es) X.env = (false, eval e X.env) :: starEach es X.env := by rfl) : PDA X (e :: es) (wCons we wa) := PA.weak (pa_cons ha hr hs) fun σ H Q ⟨Γ, M, P, Φ, s, a, h, q⟩ =>
  ⟨Γ, M, P, _, s, a, h, fun d1 M1 h1 v1 P1 H1 g1 r1 => ⟨Γ, M1, P1, _, s.up g1.le, g1.sat, h1, fun ds M2 h2 vs P2 H2 g2 r2 => q _ _ h2 _ _ _ (g1.trans g2) (.cons (r1.up g2.le) r2)⟩⟩
def wTup (w : WA) : WE := fun Γ M Φ => w Γ M fun ds M1 => ds.length ≤ sizeLine ∧ Φ (.tup ds) M1
def wLst (w : WA) : WE := fun Γ M Φ => w Γ M fun ds M1 => ds.length ≤ sizeLine ∧ Φ (.lst ds) M1
/-- an owned list -/
def wLstO (w : WA) : WE := fun Γ M Φ => w Γ M fun ds M1 => ds.length ≤ sizeLine ∧ ∀ p, p ∉ dom M1 → Φ (.op (.ref p)) ((p, .lst ds) :: M1)
theorem nodom {K : PySem.W.Frag} {P H : Hp} {M : Mp} {p : Addr} (s : Sat K P M H) (hp : H p = none) : p ∉ dom M := fun z => by
  obtain ⟨⟨a, m⟩, hm, rfl⟩ := List.mem_map.mp z
  obtain ⟨u, hu⟩ := (s.ob a m hm).2.isAt
  rw [hp] at hu; cases hu
theorem d_tup {x1} (h : PDA X es wa) : PD X (.Tuple es x1 pos) (wTup wa) := PE.weak (pe_tup h) fun σ H Q ⟨Γ, M, P, Φ, s, a, h, q⟩ =>
  ⟨Γ, M, P, _, s, a, h, fun ds M1 h1 vs P1 H1 g1 r1 => ⟨by rw [r1.length]; exact h1.1, fun p hp => q _ _ h1.2 _ _ _ (g1.trans (Grow.laid g1.sat hp)) (.tup upd_same (r1.up (Le.new (g1.sat.sub.free hp))))⟩⟩
theorem d_lst (h : PDA X es wa) : PD X (.List es pos) (wLst wa) := PE.weak (pe_lst h) fun σ H Q ⟨Γ, M, P, Φ, s, a, h, q⟩ =>
  ⟨Γ, M, P, _, s, a, h, fun ds M1 h1 vs P1 H1 g1 r1 => ⟨by rw [r1.length]; exact h1.1, fun p hp => q _ _ h1.2 _ _ _ (g1.trans (Grow.laid g1.sat hp)) (.lst upd_same (r1.up (Le.new (g1.sat.sub.free hp))))⟩⟩
theorem d_lstO (h : PDA X es wa) : PD X (.List es pos) (wLstO wa) := PE.weak (pe_lst h) fun σ H Q ⟨Γ, M, P, Φ, s, a, h, q⟩ =>
  ⟨Γ, M, P, _, s, a, h, fun ds M1 h1 vs P1 H1 g1 r1 => ⟨by rw [r1.length]; exact h1.1, fun p hp => q _ _ (h1.2 p (nodom g1.sat hp)) _ _ _ (g1.trans (Grow.owned g1.sat hp ⟨vs, upd_same, r1⟩)) (.op _)⟩⟩
/-- {} whose keys will be tuples, owned -/
def wDict : WE := fun _ M Φ => ∀ p, p ∉ dom M → Φ (.op (.ref p)) ((p, .dic []) :: M)
theorem d_dict : PD X (.Dict [] [] pos) wDict := PE.weak pe_dnewT fun σ H Q ⟨Γ, M, P, Φ, s, a, h, q⟩ => fun p hp =>
  q _ _ (h p (nodom a hp)) _ _ _ (Grow.owned a hp ⟨[], upd_same, .nil⟩) (.op _)
end

theorem atI_rep {K : PySem.W.Frag} {P : Hp} {vs : List V} {ds : List D} {i : Int} {d : D} (r : RepAll K P vs ds) (h : atI ds i = some d) : ∃ v, atI vs i = some v ∧ Rep K P v d := by
  unfold atI at h ⊢
  rw [r.length]
  cases e : ixN ds.length i with
  | none => rw [e] at h; cases h
  | some j =>
    rw [e] at h
    exact r.get h
def aIx : AR2 := fun x y M Φ => match x, y with
  | .tup ds, .int i => ∃ d, atI ds i = some d ∧ Φ d M
  | .lst ds, .int i => ∃ d, atI ds i = some d ∧ Φ d M
  | .str z, .int i => z.length ≤ sizeLine ∧ ∃ c, atI z.cps.toList i = some c ∧ Φ (.str ⟨#[c]⟩) M
  | .scr ns, .int i => ∃ n, atI ns i = some n ∧ Φ (.int n) M
  | .op (.ref a), .int i => ∃ ds d, (a, MO.lst ds) ∈ M ∧ atI ds i = some d ∧ Φ d M
  | _, _ => False
section
variable {X : Cx} {a b : Expr} {wa wb : WE} {pos : Pos}
theorem atI_map {ns : List Int} {i n : Int} (h : atI ns i = some n) : atI (ns.map V.int) i = some (V.int n) := by
  unfold atI at h ⊢
  rw [List.length_map]
  cases e : ixN ns.length i with
  | none => rw [e] at h; cases h
  | some j =>
    rw [e] at h
    show (ns.map V.int)[j]? = _
    rw [List.getElem?_map]
    have h' : ns[j]? = some n := h
    rw [h']
    rfl
theorem i_seq : IxR X (rOf X.K aIx) := IxR.weak ix_seq fun x y H Q ⟨d, e, M, P, Φ, r1, r2, s, h, q⟩ => by
  unfold aIx at h
  split at h
  · obtain ⟨d, ha, h⟩ := h
    cases r2
    cases r1 with
    | tup t a =>
      obtain ⟨v, hv, rv⟩ := atI_rep a ha
      exact .inr (.inl ⟨_, _, _, v, rfl, rfl, SqT.of (s.sub.tup t), hv, q.here s h rv⟩)
  · obtain ⟨d, ha, h⟩ := h
    cases r2
    cases r1 with
    | lst t a =>
      obtain ⟨v, hv, rv⟩ := atI_rep a ha
      exact .inl ⟨_, _, _, v, rfl, rfl, SqL.of (s.sub.lst t), hv, q.here s h rv⟩
  · obtain ⟨hz, c, hc, h⟩ := h
    cases r1; cases r2
    exact .inr (.inr ⟨_, _, c, rfl, rfl, hz, hc, q.here s h (.str _)⟩)
  · obtain ⟨n, hn, h⟩ := h
    cases r2
    cases r1 with
    | scr _ t => exact .inl ⟨_, _, _, _, rfl, rfl, s.sub.sqL t, atI_map hn, q.here s h (.int n)⟩
  · obtain ⟨ds, d, m, ha, h⟩ := h
    cases r1; cases r2
    obtain ⟨_, vs, h1, h2⟩ := s.ob _ _ m
    obtain ⟨v, hv, rv⟩ := atI_rep h2 ha
    exact .inl ⟨_, _, _, v, rfl, rfl, SqL.of h1, hv, q.here s h rv⟩
  · exact h.elim
theorem d_ix (ha : PD X a wa) (hb : PD X b wb) (hs : PlainIx b := by exact fun _ _ => rfl) : PD X (.Subscript a b pos) (wOp aIx wa wb) := PE.weak (pe_ix i_seq ha hb hs) two
/-- d[k] of the module's own dict with text keys -/
def aIxK (K : PySem.W.Frag) (w : World) : AR2 := fun x y M Φ => ∃ p z v d, x = .op (.ref p) ∧ y = .str z ∧ KDct K w p z v ∧ (∀ P, Rep K P v d) ∧ Φ d M
theorem i_kdict : IxR X (rOf X.K (aIxK X.K X.w)) := IxR.weak ix_kdict fun x y H Q ⟨d, e, M, P, Φ, r1, r2, s, ⟨p, z, v, d', e1, e2, k, rv, h⟩, q⟩ => by
  subst e1 e2
  cases r1; cases r2
  exact ⟨p, z, v, rfl, rfl, k, q.here s h (rv P)⟩
theorem d_ixK (ha : PD X a wa) (hb : PD X b wb) (hs : PlainIx b := by exact fun _ _ => rfl) : PD X (.Subscript a b pos) (wOp (aIxK X.K X.w) wa wb) := PE.weak (pe_ix i_kdict ha hb hs) two
end
abbrev WO := Ctx → Mp → (Option Int → Mp → Prop) → Prop
def toOf (K : PySem.W.Frag) (w : WO) : TO := fun σ H Q => ∃ Γ M P Φ, Slots K P σ Γ ∧ Sat K P M H ∧ w Γ M Φ ∧ ∀ o M', Φ o M' → ∀ P' H', Grow K P M H P' M' H' → Q o H'
def wNoPart : WO := fun _ M Φ => Φ none M
def wPart (w : WE) : WO := fun Γ M Φ => w Γ M fun d M1 => ∃ i, d = .int i ∧ Φ (some i) M1
theorem PO.weak {X : Cx} {e : Option Expr} {t t' : TO} (h : PO X e t) (k : ∀ σ H Q, t' σ H Q → t σ H Q) : PO X e t' := ⟨fun pins s σ H Q I hw => h.run pins s σ H Q I (k σ H Q hw)⟩
def cutD (xs : List D) (lo hi : Option Int) : List D := (xs.drop (HT.sIx xs.length 0 lo)).take (HT.sIx xs.length xs.length hi - HT.sIx xs.length 0 lo)
theorem cut_rep {K : PySem.W.Frag} {P : Hp} {vs : List V} {ds : List D} (r : RepAll K P vs ds) (lo hi : Option Int) : RepAll K P (cutV vs lo hi) (cutD ds lo hi) := by
  unfold cutV cutD
  rw [r.length]
  exact (r.drop _).take _
theorem cut_whole {ds : List D} {lo hi : Option Int} (h1 : HT.sIx ds.length 0 lo = 0) (h2 : HT.sIx ds.length ds.length hi = ds.length) : cutD ds lo hi = ds := by
  unfold cutD
  rw [h1, h2]
  simp
def aSl (x : D) (lo hi : Option Int) (M : Mp) (Φ : KD) : Prop := match x with
  | .tup ds => Φ (.tup (cutD ds lo hi)) M
  | .lst ds => Φ (.lst (cutD ds lo hi)) M
  | .op (.ref a) => ∃ ds, (a, MO.lst ds) ∈ M ∧ Φ (.lst (cutD ds lo hi)) M
  | _ => False
def slOf (K : PySem.W.Frag) : V → Option Int → Option Int → Hp → VK → Prop := fun x lo hi H Q => ∃ d M P Φ, Rep K P x d ∧ Sat K P M H ∧ aSl d lo hi M Φ ∧ Post K P M H Φ Q
def wSl (we : WE) (wl wh : WO) : WE := fun Γ M Φ => we Γ M fun d M1 => wl Γ M1 fun l M2 => wh Γ M2 fun u M3 => aSl d l u M3 Φ
section
variable {X : Cx} {e : Expr} {we : WE} {lo hi : Option Expr} {wl wh : WO} {pos p2 : Pos}
theorem do_none : PO X none (toOf X.K wNoPart) := PO.weak po_none fun σ H Q ⟨Γ, M, P, Φ, s, a, h, q⟩ => q none M h P H (Grow.refl a)
theorem do_some (he : PD X e we) : PO X (some e) (toOf X.K (wPart we)) := PO.weak (po_some he) fun σ H Q ⟨Γ, M, P, Φ, s, a, h, q⟩ =>
  ⟨Γ, M, P, _, s, a, h, fun d M1 ⟨i, e, h1⟩ v P1 H1 g r => by
    subst e
    cases r
    exact ⟨i, rfl, q _ _ h1 _ _ g⟩⟩
theorem sl_all : SlR X (slOf X.K) := SlR.weak (L2.SlR.or sl_tupA sl_list) fun x lo hi H Q ⟨d, M, P, Φ, r, s, h, q⟩ => by
  unfold aSl at h
  split at h
  · cases r with
    | tup t a =>
      have l := a.length
      refine .inl ⟨_, _, rfl, SqT.of (s.sub.tup t), fun z => ?_, fun z p hp => ?_⟩
      · rw [l] at z
        rw [cut_whole z.1 z.2] at h
        exact q.here s h (.tup t a)
      · exact q _ _ h _ _ _ (Grow.laid s hp) (.tup upd_same (cut_rep (a.up (Le.new (s.sub.free hp))) lo hi))
  · cases r with
    | lst t a => exact .inr ⟨_, _, rfl, SqL.of (s.sub.lst t), fun p hp => q _ _ h _ _ _ (Grow.laid s hp) (.lst upd_same (cut_rep (a.up (Le.new (s.sub.free hp))) lo hi))⟩
  · obtain ⟨ds, m, h⟩ := h
    cases r
    obtain ⟨_, vs, h1, h2⟩ := s.ob _ _ m
    exact .inr ⟨_, _, rfl, SqL.of h1, fun p hp => q _ _ h _ _ _ (Grow.laid s hp) (.lst upd_same (cut_rep (h2.up (Le.new (s.sub.free hp))) lo hi))⟩
  · exact h.elim
theorem d_sl (he : PD X e we) (hl : PO X lo (toOf X.K wl)) (hu : PO X hi (toOf X.K wh)) : PD X (.Subscript e (.Slice lo hi none p2) pos) (wSl we wl wh) := PE.weak (pe_slice sl_all he hl hu) fun σ H Q ⟨Γ, M, P, Φ, s, a, h, q⟩ =>
  ⟨Γ, M, P, _, s, a, h, fun d1 M1 h1 v1 P1 H1 g1 r1 => ⟨Γ, M1, P1, _, s.up g1.le, g1.sat, h1, fun l M2 h2 P2 H2 g2 => ⟨Γ, M2, P2, _, s.up (g1.le.trans g2.le), g2.sat, h2, fun u M3 h3 P3 H3 g3 =>
    ⟨d1, M3, P3, Φ, r1.up (g2.le.trans g3.le), g3.sat, h3, q.mk ((g1.trans g2).trans g3)⟩⟩⟩⟩
/-- xs[::-1] -/
def wRev (we : WE) : WE := fun Γ M Φ => we Γ M fun d M1 => ∃ ds, Now M1 d (.lst ds) ∧ Φ (.lst ds.reverse) M1
theorem d_rev {k : Nat} {p1 p2 p3 : Pos} (he : PD X e we) : PD X (.Subscript e (.Slice none none (some (.UnaryOp .USub (.Constant (.int 1) k p1) p2)) p3) pos) (wRev we) := PE.weak (pe_revL he) fun σ H Q ⟨Γ, M, P, Φ, s, a, h, q⟩ =>
  ⟨Γ, M, P, _, s, a, h, fun d1 M1 ⟨ds, n, h1⟩ v1 P1 H1 g1 r1 => by
    obtain ⟨b, vs, rfl, hb, rb⟩ := n.sqL g1.sat r1
    exact ⟨b, vs, rfl, SqL.of hb, fun p hp => q _ _ h1 _ _ _ (g1.trans (Grow.laid g1.sat hp)) (.lst upd_same (rb.up (Le.new (g1.sat.sub.free hp))).reverse)⟩⟩
end
end NF
namespace NF
open PySem L2

theorem Grow.wrote {K : PySem.W.Frag} {P H : Hp} {A B : Mp} {a : Addr} {o o' : MO} {ho : HO} (s : Sat K P (A ++ (a, o) :: B) H) (ok : MOk K P (upd H a ho) a o') : Grow K P (A ++ (a, o) :: B) H P (A ++ (a, o') :: B) (upd H a ho) := by
  have dd : dom (A ++ (a, o') :: B) = dom (A ++ (a, o) :: B) := by simp [dom]
  have ma : a ∈ dom (A ++ (a, o) :: B) := by simp [dom]
  have pa := (s.ob a o (by simp)).1
  have cd : Codes H (upd H a ho) := fun c q z => by
    have e : c ≠ a := fun e => (s.ob a o (by simp)).2.noCode q (by rw [e] at z; exact z)
    rw [upd_ne e]
    exact z
  refine ⟨Le.refl P, ⟨fun b u h => ?_, by rw [dd]; exact s.nd, fun b m hm => ?_⟩, fun b u h n => .inl ?_, fun b u h => .inl ⟨u, h⟩, fun b h => .inl (by rw [dd] at h; exact h)⟩
  · have e : b ≠ a := fun e => by rw [e, pa] at h; cases h
    rw [upd_ne e]
    exact s.sub b u h
  · by_cases e : b = a
    · subst e
      have nd := s.nd
      have hm' : (b, m) = (b, o') ∨ (b, m) ∈ A ++ B := by
        rcases List.mem_append.mp hm with z | z
        · exact .inr (List.mem_append_left _ z)
        · rcases List.mem_cons.mp z with z | z
          · exact .inl z
          · exact .inr (List.mem_append_right _ z)
      rcases hm' with z | z
      · cases z
        exact ⟨pa, ok⟩
      · exfalso
        have z' : b ∈ dom A ++ dom B := by
          rw [← List.map_append]
          exact List.mem_map.mpr ⟨_, z, rfl⟩
        have nd' : (dom A ++ b :: dom B).Nodup := by simpa [dom] using nd
        have := List.nodup_append.mp nd'
        obtain ⟨n1, n2, n3⟩ := this
        rcases List.mem_append.mp z' with y | y
        · exact n3 b y b (by simp) rfl
        · exact (List.nodup_cons.mp n2).1 y
    · have hm' : (b, m) ∈ A ++ (a, o) :: B := by
        rcases List.mem_append.mp hm with z | z
        · exact List.mem_append_left _ z
        · rcases List.mem_cons.mp z with z | z
          · cases z; exact absurd rfl e
          · exact List.mem_append_right _ (List.mem_cons_of_mem _ z)
      obtain ⟨h1, h2⟩ := s.ob b m hm'
      exact ⟨h1, h2.up (Le.refl P) (upd_ne e) cd⟩
  · have e : b ≠ a := fun e => n (by rw [e]; exact ma)
    rw [upd_ne e]
    exact h

/-- d as it stands, all owned things outside M2 read as data -/
inductive Fz (M M2 : Mp) : D → D → Prop
  | same (d : D) : Fz M M2 d d
  | lst {a : Addr} {ds es : List D} : (a, MO.lst ds) ∈ M → a ∉ dom M2 → (∀ (i : Nat) d e, ds[i]? = some d → es[i]? = some e → Fz M M2 d e) → ds.length = es.length → Fz M M2 (.op (.ref a)) (.lst es)
  | dic {a : Addr} {kvs : List (List Key × D)} {es : List D} : (a, MO.dic kvs) ∈ M → a ∉ dom M2 → (∀ (i : Nat) d e, (kvs.map (·.2))[i]? = some d → es[i]? = some e → Fz M M2 d e) → kvs.length = es.length → Fz M M2 (.op (.ref a)) (.dic (kvs.map (·.1)) es)
  | ins {a C : Addr} {fs : List (Str × D)} : (a, MO.ins C fs) ∈ M → a ∉ dom M2 → Fz M M2 (.op (.ref a)) (.rcd C (fs.map (·.1)) (fs.map (·.2)))
/-- P with all that is owned in M and not in M2, as it stands in H -/
noncomputable def frz (P H : Hp) (M M2 : Mp) : Hp := fun a => open Classical in if a ∈ dom M ∧ a ∉ dom M2 then H a else P a
/-- some of what is owned, in its turn -/
abbrev Sub (M2 M : Mp) : Prop := List.Sublist M2 M
theorem Sub.nd {M2 M : Mp} (s : Sub M2 M) (h : (dom M).Nodup) : (dom M2).Nodup := (List.Sublist.map _ s).nodup h
theorem Sub.mem {M2 M : Mp} (s : Sub M2 M) : ∀ p, p ∈ M2 → p ∈ M := fun _ h => List.Sublist.subset s h
theorem frz_le {K : PySem.W.Frag} {P H : Hp} {M M2 : Mp} (s : Sat K P M H) : Le P (frz P H M M2) := fun a o h => by
  left
  unfold frz
  have : ¬ (a ∈ dom M ∧ a ∉ dom M2) := fun ⟨z, _⟩ => by
    obtain ⟨⟨b, m⟩, hm, e⟩ := List.mem_map.mp z
    have e' : b = a := e
    subst e'
    rw [(s.ob b m hm).1] at h
    cases h
  rw [if_neg this]
  exact h
theorem grow_frz {K : PySem.W.Frag} {P H : Hp} {M M2 : Mp} (s : Sat K P M H) (sub : Sub M2 M) : Grow K P M H (frz P H M M2) M2 H := by
  have le := frz_le (M2 := M2) s
  refine ⟨le, ⟨fun a o h => ?_, Sub.nd sub s.nd, fun a m hm => ?_⟩, fun a o h _ => .inl h, fun a o h => ?_, fun a h => ?_⟩
  · unfold frz at h
    split at h
    · exact .inl h
    · exact s.sub a o h
  · obtain ⟨h1, h2⟩ := s.ob a m (Sub.mem sub _ hm)
    refine ⟨?_, h2.up le rfl (Codes.refl H)⟩
    unfold frz
    have : ¬ (a ∈ dom M ∧ a ∉ dom M2) := fun ⟨_, z⟩ => z (List.mem_map.mpr ⟨_, hm, rfl⟩)
    rw [if_neg this]
    exact h1
  · unfold frz at h
    split at h
    · rename_i c
      exact .inr (.inr (.inl c.1))
    · exact .inl ⟨o, h⟩
  · obtain ⟨p, hp, e⟩ := List.mem_map.mp h
    exact .inl (List.mem_map.mpr ⟨p, Sub.mem sub _ hp, e⟩)
theorem frz_at {P H : Hp} {M M2 : Mp} {a : Addr} (h : a ∈ dom M) (n : a ∉ dom M2) : frz P H M M2 a = H a := by
  unfold frz
  rw [if_pos ⟨h, n⟩]
theorem RepAll.by {K : PySem.W.Frag} {P : Hp} : ∀ {vs : List V} {es : List D}, vs.length = es.length → (∀ (i : Nat) v e, vs[i]? = some v → es[i]? = some e → Rep K P v e) → RepAll K P vs es
  | [], [], _, _ => .nil
  | [], _ :: _, h, _ => by simp at h
  | _ :: _, [], h, _ => by simp at h
  | v :: vs, e :: es, h, k => .cons (k 0 v e rfl rfl) (RepAll.by (by simpa using h) fun i v' e' h1 h2 => k (i + 1) v' e' (by simpa using h1) (by simpa using h2))
theorem paired_split {α β γ : Type} {F : β → γ → Prop} : ∀ {l₁ : List (α × β)} {l₂ : List (α × γ)}, Paired (fun p q => p.1 = q.1 ∧ F p.2 q.2) l₁ l₂ → l₁ = (l₂.map (·.1)).zip (l₁.map (·.2)) ∧ l₁.length = l₂.length ∧ Paired F (l₁.map (·.2)) (l₂.map (·.2))
  | _, _, .nil => ⟨rfl, rfl, .nil⟩
  | (a, b) :: l₁, (c, d) :: l₂, .cons r t => by
    obtain ⟨h1, h2, h3⟩ := paired_split t
    obtain ⟨e, f⟩ := r
    have e' : a = c := e
    subst e'
    refine ⟨?_, by simp [h2], .cons f h3⟩
    show (a, b) :: l₁ = (a, b) :: ((l₂.map (·.1)).zip (l₁.map (·.2)))
    rw [← h1]
theorem paired_repAll {K : PySem.W.Frag} {P : Hp} : ∀ {vs : List V} {ds : List D}, Paired (fun v d => Rep K P v d) vs ds → RepAll K P vs ds
  | _, _, .nil => .nil
  | _, _, .cons r t => .cons r (paired_repAll t)
theorem Fz.rep {K : PySem.W.Frag} {P H : Hp} {M M2 : Mp} (s : Sat K P M H) {d e : D} (z : Fz M M2 d e) : ∀ {v : V}, Rep K P v d → Rep K (frz P H M M2) v e := by
  induction z with
  | same d => exact fun r => r.up (frz_le s)
  | lst m n h hl ih =>
    intro v r
    cases r
    obtain ⟨_, vs, h1, h2⟩ := s.ob _ _ m
    refine .lst ((frz_at (List.mem_map.mpr ⟨_, m, rfl⟩) n).trans h1) (RepAll.by (h2.length.trans hl) fun i v e hv he => ?_)
    obtain ⟨d, hd, rd⟩ := h2.get' hv
    exact ih i d e hd he rd
  | dic m n h hl ih =>
    intro v r
    cases r
    obtain ⟨_, vs, h1, h2⟩ := s.ob _ _ m
    obtain ⟨q1, q2, q3⟩ := paired_split h2
    have q4 := paired_repAll q3
    refine .dic (vs := vs.map (·.2)) (.inl ((frz_at (List.mem_map.mpr ⟨_, m, rfl⟩) n).trans (by rw [← q1]; exact h1))) (by simp [q2]) (RepAll.by (by simp [q2, hl]) fun i v e hv he => ?_)
    obtain ⟨d, hd, rd⟩ := q4.get' hv
    exact ih i d e hd he rd
  | ins m n =>
    intro v r
    cases r
    obtain ⟨_, dx, vs, h1, h2⟩ := s.ob _ _ m
    obtain ⟨q1, q2, q3⟩ := paired_split h2
    refine .rcd (dx := dx) (vs := vs.map (·.2)) ((frz_at (List.mem_map.mpr ⟨_, m, rfl⟩) n).trans (by rw [← q1]; exact h1)) (by simp [q2]) ((paired_repAll q3).up (frz_le s))

def keyD : Key → D
  | .inl i => .int i
  | .inr x => .str x
theorem keys_rep {K : PySem.W.Frag} {P : Hp} : ∀ {k : List Key} {vs : List V}, RepAll K P vs (k.map keyD) → vs = k.map kV
  | [], _, h => by cases h; rfl
  | .inl i :: k, _, h => by
    cases h with
    | cons h1 h2 =>
      have h1' : Rep K P _ (.int i) := h1
      cases h1'
      rw [keys_rep h2]; rfl
  | .inr x :: k, _, h => by
    cases h with
    | cons h1 h2 =>
      have h1' : Rep K P _ (.str x) := h1
      cases h1'
      rw [keys_rep h2]; rfl
def lookA {κ β : Type} [DecidableEq κ] (kvs : List (κ × β)) (k : κ) : Option β := (kvs.find? fun kv => decide (kv.1 = k)).map (·.2)
def putA {κ β : Type} [DecidableEq κ] (kvs : List (κ × β)) (k : κ) (v : β) : List (κ × β) :=
  if (kvs.any fun kv => decide (kv.1 = k)) = true then kvs.map (fun kv => if kv.1 = k then (kv.1, v) else kv) else kvs ++ [(k, v)]
theorem KRep.look {K : PySem.W.Frag} {P : Hp} {k : List Key} : ∀ {vs : List (List Key × V)} {kvs : List (List Key × D)}, KRep K P vs kvs → (∀ d, lookA kvs k = some d → ∃ v, valV vs k = some v ∧ Rep K P v d) ∧ (lookA kvs k = none → valV vs k = none)
  | _, _, .nil => ⟨fun _ h => by simp [lookA] at h, fun _ => rfl⟩
  | (a, b) :: vs, (c, d) :: kvs, .cons r t => by
    obtain ⟨e, f⟩ := r
    have e' : a = c := e
    subst e'
    have ih := KRep.look (k := k) t
    unfold lookA valV at *
    by_cases h : a = k
    · simp only [List.find?_cons, h, decide_true]
      exact ⟨fun d' hd => ⟨b, rfl, by cases hd; exact f⟩, fun hn => by cases hn⟩
    · simp only [List.find?_cons, h, decide_false]
      exact ih
theorem KRep.any {K : PySem.W.Frag} {P : Hp} {k : List Key} : ∀ {vs : List (List Key × V)} {kvs : List (List Key × D)}, KRep K P vs kvs → (vs.any fun kv => decide (kv.1 = k)) = (kvs.any fun kv => decide (kv.1 = k))
  | _, _, .nil => rfl
  | (a, b) :: vs, (c, d) :: kvs, .cons r t => by
    have e' : a = c := r.1
    subst e'
    simp only [List.any_cons, KRep.any t]
theorem KRep.map {K : PySem.W.Frag} {P : Hp} {k : List Key} {v : V} {d : D} (rv : Rep K P v d) : ∀ {vs : List (List Key × V)} {kvs : List (List Key × D)}, KRep K P vs kvs → KRep K P (vs.map (fun kv => if kv.1 = k then (kv.1, v) else kv)) (kvs.map (fun kv => if kv.1 = k then (kv.1, d) else kv))
  | _, _, .nil => .nil
  | (a, b) :: vs, (c, e) :: kvs, .cons r t => by
    have e' : a = c := r.1
    subst e'
    simp only [List.map_cons]
    refine .cons ?_ (KRep.map rv t)
    by_cases h : a = k
    · rw [if_pos h, if_pos h]; exact ⟨rfl, rv⟩
    · rw [if_neg h, if_neg h]; exact r
theorem KRep.append {K : PySem.W.Frag} {P : Hp} : ∀ {vs ws : List (List Key × V)} {kvs kws : List (List Key × D)}, KRep K P vs kvs → KRep K P ws kws → KRep K P (vs ++ ws) (kvs ++ kws)
  | _, _, _, _, .nil, h => h
  | _, _, _, _, .cons r t, h => .cons r (KRep.append t h)
theorem KRep.put {K : PySem.W.Frag} {P : Hp} {k : List Key} {v : V} {d : D} {vs : List (List Key × V)} {kvs : List (List Key × D)} (h : KRep K P vs kvs) (r : Rep K P v d) : KRep K P (putK vs k v) (putA kvs k d) := by
  unfold putK putA
  rw [h.any]
  split
  · exact h.map r
  · exact h.append (.cons ⟨rfl, r⟩ .nil)
theorem KRep.length {K : PySem.W.Frag} {P : Hp} : ∀ {vs : List (List Key × V)} {kvs : List (List Key × D)}, KRep K P vs kvs → vs.length = kvs.length
  | _, _, .nil => rfl
  | _, _, .cons _ t => by simp [KRep.length t]
theorem krep_zip {K : PySem.W.Frag} {P : Hp} : ∀ {ks : List (List Key)} {vs : List V} {ds : List D}, ks.length = vs.length → RepAll K P vs ds → KRep K P (ks.zip vs) (ks.zip ds)
  | [], _, _, _, _ => by simp; exact .nil
  | k :: ks, [], _, h, _ => by simp at h
  | k :: ks, v :: vs, ds, h, r => by
    cases r with
    | cons r1 r2 => exact .cons ⟨rfl, r1⟩ (krep_zip (by simpa using h) r2)
/-- a dict: owned, or standing still -/
inductive DicOf (M : Mp) : D → List (List Key × D) → Prop
  | own {a : Addr} {kvs : List (List Key × D)} : (a, MO.dic kvs) ∈ M → DicOf M (.op (.ref a)) kvs
  | ownL {a : Addr} {ob : Obj} {vs : List (List Key × V)} {kvs : List (List Key × D)} : (a, MO.dicL ob vs kvs) ∈ M → DicOf M (.op (.ref a)) kvs
  | still (ks : List (List Key)) (ds : List D) : DicOf M (.dic ks ds) (ks.zip ds)
theorem DicOf.rd {K : PySem.W.Frag} {P H : Hp} {M : Mp} {d : D} {kvs : List (List Key × D)} {v : V} (s : Sat K P M H) (n : DicOf M d kvs) (r : Rep K P v d) : ∃ a vs, v = .ref a ∧ Rd H a (.dT vs) ∧ KRep K P vs kvs := by
  cases n with
  | own m =>
    cases r
    obtain ⟨_, vs, h1, h2⟩ := s.ob _ _ m
    exact ⟨_, vs, rfl, .inl h1, h2⟩
  | ownL m =>
    cases r
    obtain ⟨_, h1, h2⟩ := s.ob _ _ m
    exact ⟨_, _, rfl, .inr ⟨_, h1⟩, h2⟩
  | still ks ds =>
    cases r with
    | dic h1 hl h2 => exact ⟨_, _, rfl, s.sub.rdT h1, krep_zip hl h2⟩
def wDGet (wd wk : WE) : WE := fun Γ M Φ => wd Γ M fun x M1 => wk Γ M1 fun y M2 => ∃ key kvs d, y = .tup (key.map keyD) ∧ DicOf M2 x kvs ∧ lookA kvs key = some d ∧ Φ d M2
def wDGet2 (wd wk wz : WE) : WE := fun Γ M Φ => wd Γ M fun x M1 => (∃ kvs, DicOf M1 x kvs) ∧ wk Γ M1 fun y M2 => wz Γ M2 fun z M3 => ∃ key kvs, y = .tup (key.map keyD) ∧ DicOf M3 x kvs ∧ Φ ((lookA kvs key).getD z) M3
def wDIn (neg : Bool) (wk wd : WE) : WE := fun Γ M Φ => wk Γ M fun y M1 => wd Γ M1 fun x M2 => ∃ key kvs, y = .tup (key.map keyD) ∧ DicOf M2 x kvs ∧ Φ (.bl (if neg then !(lookA kvs key).isSome else (lookA kvs key).isSome)) M2
section
variable {X : Cx} {o i f : Expr} {wd wk wz : WE} {pos apos cpos : Pos}
theorem key_at {K : PySem.W.Frag} {P H : Hp} {M : Mp} {y : V} {key : List Key} (s : Sat K P M H) (r : Rep K P y (.tup (key.map keyD))) : ∃ b, y = .ref b ∧ H b = some (.tup (key.map kV)) := by
  cases r with
  | tup t a =>
    rw [keys_rep a] at t
    exact ⟨_, rfl, s.sub.tup t⟩
theorem look_some {K : PySem.W.Frag} {P : Hp} {k : List Key} {vs : List (List Key × V)} {kvs : List (List Key × D)} (h : KRep K P vs kvs) : (valV vs k).isSome = (lookA kvs k).isSome := by
  cases e : lookA kvs k with
  | none => rw [h.look.2 e]; rfl
  | some d =>
    obtain ⟨v, hv, _⟩ := h.look.1 d e
    rw [hv]; rfl
theorem d_dget (hu : X.A.units + 1 < cLine) (ho : PD X o wd) (hi : PD X i wk) (hs : NoSl i := by exact fun _ _ => rfl) : PD X (.Subscript o i pos) (wDGet wd wk) := PE.weak (pe_dget hu ho hi hs) fun σ H Q ⟨Γ, M, P, Φ, s, a, h, q⟩ =>
  ⟨Γ, M, P, _, s, a, h, fun d1 M1 h1 v1 P1 H1 g1 r1 => ⟨Γ, M1, P1, _, s.up g1.le, g1.sat, h1, fun d2 M2 ⟨key, kvs, d, e, n, l, h2⟩ v2 P2 H2 g2 r2 => by
    subst e
    obtain ⟨b, rfl, hb⟩ := key_at g2.sat r2
    obtain ⟨c, vs, rfl, hc, hk⟩ := n.rd g2.sat (r1.up g2.le)
    obtain ⟨v, hv, rv⟩ := hk.look.1 d l
    exact ⟨c, v, rfl, .inr ⟨vs, key, b, hc, rfl, hb, hv.symm⟩, (q.mk (g1.trans g2)).here g2.sat h2 rv⟩⟩⟩
theorem din_of {K : PySem.W.Frag} {neg : Bool} (σ : St) (H : Hp) (Q : VK) : tOf K (wDIn neg wk wd) σ H Q → (if neg then tDNotIn (tOf K wk) (tOf K wd) else tDIn (tOf K wk) (tOf K wd)) σ H Q := fun ⟨Γ, M, P, Φ, s, a, h, q⟩ => by
  have go : ∀ (d1 : D) (M1 : Mp) (v1 : V) (P1 H1 : Hp) (g1 : Grow K P M H P1 M1 H1) (r1 : Rep K P1 v1 d1) (d2 : D) (M2 : Mp) (h2 : ∃ key kvs, d1 = .tup (key.map keyD) ∧ DicOf M2 d2 kvs ∧ Φ (.bl (if neg then !(lookA kvs key).isSome else (lookA kvs key).isSome)) M2)
      (v2 : V) (P2 H2 : Hp) (g2 : Grow K P1 M1 H1 P2 M2 H2) (r2 : Rep K P2 v2 d2), ∃ c ov, v2 = .ref c ∧ DGet H2 c v1 ov ∧ Q (.bl (if neg then !ov.isSome else ov.isSome)) H2 := by
    intro d1 M1 v1 P1 H1 g1 r1 d2 M2 ⟨key, kvs, e, n, h2⟩ v2 P2 H2 g2 r2
    subst e
    obtain ⟨b, rfl, hb⟩ := key_at g2.sat (r1.up g2.le)
    obtain ⟨c, vs, rfl, hc, hk⟩ := n.rd g2.sat r2
    refine ⟨c, _, rfl, .inr ⟨vs, key, b, hc, rfl, hb, rfl⟩, ?_⟩
    rw [look_some hk]
    exact (q.mk (g1.trans g2)).here g2.sat h2 (.bl _)
  cases neg with
  | true => exact ⟨Γ, M, P, _, s, a, h, fun d1 M1 h1 v1 P1 H1 g1 r1 => ⟨Γ, M1, P1, _, s.up g1.le, g1.sat, h1, fun d2 M2 h2 v2 P2 H2 g2 r2 => go d1 M1 v1 P1 H1 g1 r1 d2 M2 h2 v2 P2 H2 g2 r2⟩⟩
  | false => exact ⟨Γ, M, P, _, s, a, h, fun d1 M1 h1 v1 P1 H1 g1 r1 => ⟨Γ, M1, P1, _, s.up g1.le, g1.sat, h1, fun d2 M2 h2 v2 P2 H2 g2 r2 => go d1 M1 v1 P1 H1 g1 r1 d2 M2 h2 v2 P2 H2 g2 r2⟩⟩
theorem d_din (hu : X.A.units + 1 < cLine) (hi : PD X i wk) (ho : PD X o wd) (h1 : behindInMarks .In o = false := by rfl) : PD X (.Compare i [.In] [o] pos) (wDIn false wk wd) := PE.weak (pe_cmp (pc_din hu hi ho) h1) fun σ H Q h => din_of (neg := false) σ H Q h
theorem d_dnotIn (hu : X.A.units + 1 < cLine) (hi : PD X i wk) (ho : PD X o wd) (h1 : behindInMarks .NotIn o = false := by rfl) : PD X (.Compare i [.NotIn] [o] pos) (wDIn true wk wd) := PE.weak (pe_cmp (pc_dnotin hu hi ho) h1) fun σ H Q h => din_of (neg := true) σ H Q h
theorem dt_din (hu : X.A.units + 1 < cLine) (hi : PD X i wk) (ho : PD X o wd) (h1 : behindInMarks .In o = false := by rfl) : PDT X (.Compare i [.In] [o] pos) (wTest (wDIn false wk wd)) := PT.weak (pt_cmp (pc_din hu hi ho) h1) fun σ H Q h => din_of (neg := false) σ H _ (test_of σ H Q h)
theorem dt_dnotIn (hu : X.A.units + 1 < cLine) (hi : PD X i wk) (ho : PD X o wd) (h1 : behindInMarks .NotIn o = false := by rfl) : PDT X (.Compare i [.NotIn] [o] pos) (wTest (wDIn true wk wd)) := PT.weak (pt_cmp (pc_dnotin hu hi ho) h1) fun σ H Q h => din_of (neg := true) σ H _ (test_of σ H Q h)
end

structure AE where
  nx : Ctx → Mp → Prop
  rt : D → Mp → Prop
  bk : Ctx → Mp → Prop := fun _ _ => False
  ct : Ctx → Mp → Prop := fun _ _ => False
abbrev WS := AE → Ctx → Mp → Prop
structure EndsOk (K : PySem.W.Frag) (P : Hp) (M : Mp) (H : Hp) (R : AE) (E : Ends) : Prop where
  nx : ∀ Γ' M', R.nx Γ' M' → ∀ σ' P' H', Grow K P M H P' M' H' → Slots K P' σ' Γ' → E.nx σ' H'
  rt : ∀ d M', R.rt d M' → ∀ v P' H', Grow K P M H P' M' H' → Rep K P' v d → E.rt v H'
  bk : ∀ Γ' M', R.bk Γ' M' → ∀ σ' P' H', Grow K P M H P' M' H' → Slots K P' σ' Γ' → E.bk σ' H'
  ct : ∀ Γ' M', R.ct Γ' M' → ∀ σ' P' H', Grow K P M H P' M' H' → Slots K P' σ' Γ' → E.ct σ' H'
theorem EndsOk.mk' {K : PySem.W.Frag} {P H P1 H1 : Hp} {M M1 : Mp} {R : AE} {E : Ends} (e : EndsOk K P M H R E) (g : Grow K P M H P1 M1 H1) : EndsOk K P1 M1 H1 R E :=
  ⟨fun Γ' M' h σ' P' H' g' s => e.nx Γ' M' h σ' P' H' (g.trans g') s, fun d M' h v P' H' g' r => e.rt d M' h v P' H' (g.trans g') r, fun Γ' M' h σ' P' H' g' s => e.bk Γ' M' h σ' P' H' (g.trans g') s, fun Γ' M' h σ' P' H' g' s => e.ct Γ' M' h σ' P' H' (g.trans g') s⟩
def sOf (K : PySem.W.Frag) (w : WS) : TS := fun E σ H => ∃ Γ M P R, Slots K P σ Γ ∧ Sat K P M H ∧ w R Γ M ∧ EndsOk K P M H R E
abbrev PDS (X : Cx) (st : Stmt) (w : WS) : Prop := PS X st (sOf X.K w)
abbrev PDB (X : Cx) (st : List Stmt) (w : WS) : Prop := PSs X st (sOf X.K w)
section
variable {X : Cx} {st : Stmt} {rest : List Stmt} {ws wr : WS} {e o : Expr} {we wo wv wk wd : WE} {pos pos' : Pos}
def wNext : WS := fun R Γ M => R.nx Γ M
def wSeq (a b : WS) : WS := fun R Γ M => a { R with nx := b R } Γ M
theorem db_nil : PDB X [] wNext := PSs.weak pss_nil fun E σ H ⟨Γ, M, P, R, s, a, h, q⟩ => q.nx Γ M h σ P H (Grow.refl a) s
theorem db_cons (h1 : PDS X st ws) (h2 : PDB X rest wr) : PDB X (st :: rest) (wSeq ws wr) := PSs.weak (pss_cons h1 h2) fun E σ H ⟨Γ, M, P, R, s, a, h, q⟩ =>
  ⟨Γ, M, P, { R with nx := wr R }, s, a, h, ⟨fun Γ' M' h' σ' P' H' g s' => ⟨Γ', M', P', R, s', g.sat, h', q.mk' g⟩, q.rt, q.bk, q.ct⟩⟩
theorem db_one (h1 : PDS X st ws) : PDB X [st] ws := pss_one h1
def wBreak : WS := fun R Γ M => R.bk Γ M
def wCont : WS := fun R Γ M => R.ct Γ M
theorem ds_pass : PDS X (.Pass pos) wNext := PS.weak ps_pass fun E σ H ⟨Γ, M, P, R, s, a, h, q⟩ => q.nx Γ M h σ P H (Grow.refl a) s
theorem ds_break : PDS X (.Break pos) wBreak := PS.weak ps_break fun E σ H ⟨Γ, M, P, R, s, a, h, q⟩ => q.bk Γ M h σ P H (Grow.refl a) s
theorem ds_cont : PDS X (.Continue pos) wCont := PS.weak ps_continue fun E σ H ⟨Γ, M, P, R, s, a, h, q⟩ => q.ct Γ M h σ P H (Grow.refl a) s
def wNever : WS := fun _ _ _ => False
theorem ds_never : PDS X st wNever := PS.weak ps_never fun E σ H ⟨Γ, M, P, R, s, a, h, q⟩ => h
theorem db_never : PDB X rest wNever := PSs.weak pss_never fun E σ H ⟨Γ, M, P, R, s, a, h, q⟩ => h
def wDrop (w : WE) : WS := fun R Γ M => w Γ M fun _ M1 => R.nx Γ M1
theorem ds_expr (he : PD X e we) (hs : swapsWith e none pos.line X.env = pure false := by rfl) : PDS X (.Expr e pos) (wDrop we) := PS.weak (ps_expr he hs) fun E σ H ⟨Γ, M, P, R, s, a, h, q⟩ =>
  ⟨Γ, M, P, _, s, a, h, fun d M1 h1 v P1 H1 g r => q.nx _ _ h1 _ _ _ g (s.up g.le)⟩
def wRet (w : WE) : WS := fun R Γ M => w Γ M R.rt
theorem ds_ret (he : PD X e we) : PDS X (.Return (some e) pos) (wRet we) := PS.weak (ps_ret he) fun E σ H ⟨Γ, M, P, R, s, a, h, q⟩ =>
  ⟨Γ, M, P, _, s, a, h, fun d M1 h1 v P1 H1 g r => q.rt _ _ h1 _ _ _ g r⟩
def wSet (i : Nat) (w : WE) : WS := fun R Γ M => w Γ M fun d M1 => R.nx (Γ.set i (some d)) M1
theorem ds_set (i : Nat) {x : Str} (hN : X.N.Nodup) (hx : Loc X.env.scope x) (he : PD X e we) (hi : X.N[i]? = some x := by rfl) (hs : swapsWith e (some (.Name x pos')) pos.line X.env = pure false := by rfl)
    (hf : X.fn x = true ∨ X.env.scope.names.lookup x = some .local := by first | exact .inl rfl | exact .inr rfl | assumption) : PDS X (.Assign [.Name x pos'] e pos) (wSet i we) := PS.weak (ps_set hN hi hx he hs hf) fun E σ H ⟨Γ, M, P, R, s, a, h, q⟩ =>
  ⟨Γ, M, P, _, s, a, h, fun d M1 h1 v P1 H1 g r => q.nx _ _ h1 _ _ _ g ((s.up g.le).set r i)⟩
def wIfS (c : WT) (a b : WS) : WS := fun R Γ M => c Γ M fun k M1 => (k = true → a R Γ M1) ∧ (k = false → b R Γ M1)
theorem ds_if {c : Expr} {a b : List Stmt} {wc : WT} {wa wb : WS} (hc : PDT X c wc) (ha : PDB X a wa) (hb : PDB X b wb) : PDS X (.If c a b pos) (wIfS wc wa wb) := PS.weak (ps_if hc ha hb) fun E σ H ⟨Γ, M, P, R, s, a, h, q⟩ =>
  ⟨Γ, M, P, _, s, a, h, fun k M1 ⟨h1, h2⟩ P1 H1 g => by
    cases k with
    | true => rw [if_pos rfl]; exact ⟨Γ, M1, P1, R, s.up g.le, g.sat, h1 rfl, q.mk' g⟩
    | false => rw [if_neg Bool.false_ne_true]; exact ⟨Γ, M1, P1, R, s.up g.le, g.sat, h2 rfl, q.mk' g⟩⟩
/-- d[k] = v, d owned -/
def wDPut (wd wk wv : WE) : WS := fun R Γ M => wv Γ M fun v M1 => wd Γ M1 fun d M2 => wk Γ M2 fun k M3 => ∃ a key kvs A B, d = .op (.ref a) ∧ k = .tup (key.map keyD) ∧ M3 = A ++ (a, MO.dic kvs) :: B ∧ kvs.length < sizeLine ∧ R.nx Γ (A ++ (a, MO.dic (putA kvs key v)) :: B)
theorem ds_dput {i value : Expr} (hu : X.A.units + 1 < cLine) (ho : PD X o wd) (hi : PD X i wk) (hv : PD X value wv) (hs : swapsWith value (some (.Subscript o i pos')) pos.line X.env = pure false := by rfl) : PDS X (.Assign [.Subscript o i pos'] value pos) (wDPut wd wk wv) :=
  PS.weak (ps_dput hu ho hi hv hs) fun E σ H ⟨Γ, M, P, R, s, a, h, q⟩ =>
    ⟨Γ, M, P, _, s, a, h, fun d1 M1 h1 v1 P1 H1 g1 r1 => ⟨Γ, M1, P1, _, s.up g1.le, g1.sat, h1, fun d2 M2 h2 v2 P2 H2 g2 r2 => ⟨Γ, M2, P2, _, s.up (g1.le.trans g2.le), g2.sat, h2, fun d3 M3 ⟨b, key, kvs, A, B, e1, e2, e3, hl, h3⟩ v3 P3 H3 g3 r3 => by
      subst e1 e2 e3
      have r2' := r2.up g3.le
      cases r2'
      obtain ⟨c, rfl, hc⟩ := key_at g3.sat r3
      obtain ⟨_, vs, hb, hk⟩ := g3.sat.ob b (MO.dic kvs) (by simp)
      refine ⟨b, _, rfl, .inr ⟨vs, key, c, hb, rfl, hc, by rw [hk.length]; exact hl, rfl⟩, ?_⟩
      have g4 := Grow.wrote (o' := MO.dic (putA kvs key d1)) (ho := .dT (putK vs key v1)) g3.sat ⟨_, upd_same, hk.put (r1.up (g2.le.trans g3.le))⟩
      exact q.nx _ _ h3 _ _ _ (((g1.trans g2).trans g3).trans g4) (s.up ((g1.le.trans g2.le).trans g3.le))⟩⟩⟩
end

def putD (f : Str) (v : D) : List (Str × D) → List (Str × D)
  | [] => [(f, v)]
  | (g, x) :: r => if g = f then (g, v) :: r else (g, x) :: putD f v r
theorem FRep.put {K : PySem.W.Frag} {P : Hp} {f : Str} {v : V} {d : D} (r : Rep K P v d) : ∀ {vs : List (Str × V)} {fs : List (Str × D)}, FRep K P vs fs → FRep K P (putF f v vs) (putD f d fs)
  | _, _, .nil => .cons ⟨rfl, r⟩ .nil
  | (a, b) :: vs, (c, e) :: fs, .cons q t => by
    have e' : a = c := q.1
    subst e'
    unfold putF putD
    by_cases h : a = f
    · rw [if_pos h, if_pos h]; exact .cons ⟨rfl, r⟩ t
    · rw [if_neg h, if_neg h]; exact .cons q (FRep.put r t)
theorem FRep.look {K : PySem.W.Frag} {P : Hp} {f : Str} {d : D} : ∀ {vs : List (Str × V)} {fs : List (Str × D)}, FRep K P vs fs → fs.lookup f = some d → ∃ v, vs.lookup f = some v ∧ Rep K P v d
  | _, _, .nil, h => by cases h
  | (a, b) :: vs, (c, e) :: fs, .cons q t, h => by
    have e' : a = c := q.1
    subst e'
    simp only [List.lookup_cons] at h ⊢
    split at h
    · cases h; exact ⟨b, rfl, q.2⟩
    · exact FRep.look t h
theorem FRep.no {K : PySem.W.Frag} {P : Hp} {f : Str} : ∀ {vs : List (Str × V)} {fs : List (Str × D)}, FRep K P vs fs → fs.lookup f = none → vs.lookup f = none
  | _, _, .nil, _ => rfl
  | (a, b) :: vs, (c, e) :: fs, .cons q t, h => by
    have e' : a = c := q.1
    subst e'
    simp only [List.lookup_cons] at h ⊢
    split at h
    · cases h
    · exact FRep.no t h
theorem FRep.length {K : PySem.W.Frag} {P : Hp} : ∀ {vs : List (Str × V)} {fs : List (Str × D)}, FRep K P vs fs → vs.length = fs.length
  | _, _, .nil => rfl
  | _, _, .cons _ t => by simp [FRep.length t]
theorem frep_zip {K : PySem.W.Frag} {P : Hp} : ∀ {ns : List Str} {vs : List V} {ds : List D}, ns.length = vs.length → RepAll K P vs ds → FRep K P (ns.zip vs) (ns.zip ds)
  | [], _, _, _, _ => by simp; exact .nil
  | k :: ks, [], _, h, _ => by simp at h
  | k :: ks, v :: vs, ds, h, r => by
    cases r with
    | cons r1 r2 => exact .cons ⟨rfl, r1⟩ (frep_zip (by simpa using h) r2)
inductive InsOf (C : Addr) (M : Mp) : D → List (Str × D) → Prop
  | own {a : Addr} {fs : List (Str × D)} : (a, MO.ins C fs) ∈ M → InsOf C M (.op (.ref a)) fs
  | still (ns : List Str) (ds : List D) : InsOf C M (.rcd C ns ds) (ns.zip ds)
theorem InsOf.at_ {K : PySem.W.Frag} {P H : Hp} {M : Mp} {C : Addr} {d : D} {fs : List (Str × D)} {v : V} (s : Sat K P M H) (n : InsOf C M d fs) (r : Rep K P v d) : ∃ a dx vs, v = .ref a ∧ H a = some (.ins C dx vs) ∧ FRep K P vs fs := by
  cases n with
  | own m =>
    cases r
    obtain ⟨_, dx, vs, h1, h2⟩ := s.ob _ _ m
    exact ⟨_, dx, vs, rfl, h1, h2⟩
  | still ns ds =>
    cases r with
    | rcd h1 hl h2 => exact ⟨_, _, _, rfl, s.sub.ins h1, frep_zip hl h2⟩
def wFld (C : Addr) (f : Str) (w : WE) : WE := fun Γ M Φ => w Γ M fun d M1 => ∃ fs x, InsOf C M1 d fs ∧ fs.lookup f = some x ∧ Φ x M1
def wSetFld (C : Addr) (f : Str) (wo wv : WE) : WS := fun R Γ M => wv Γ M fun y M1 => wo Γ M1 fun d M2 => ∃ a fs A B, d = .op (.ref a) ∧ M2 = A ++ (a, MO.ins C fs) :: B ∧ fs.length < 1000 ∧ R.nx Γ (A ++ (a, MO.ins C (putD f y fs)) :: B)
section
variable {X : Cx} {o e value : Expr} {we wo wv : WE} {C : Addr} {f : Str} {pos pos' : Pos}
theorem d_fld (c : Cls X.K C) (n : NoAttr X.K C f) (he : PD X e we) (hb : attributeBase e f X.env (eval e X.env) = eval e X.env := by rfl) : PD X (.Attribute e f pos) (wFld C f we) := PE.weak (pe_fld he hb) fun σ H Q ⟨Γ, M, P, Φ, s, a, h, q⟩ =>
  ⟨Γ, M, P, _, s, a, h, fun d M1 ⟨fs, x, i, l, h1⟩ v P1 H1 g r => by
    obtain ⟨b, dx, vs, rfl, hb, hf⟩ := i.at_ g.sat r
    obtain ⟨u, hu, ru⟩ := hf.look l
    exact ⟨b, C, dx, vs, u, rfl, hb, c, n, hu, (q.mk g).here g.sat h1 ru⟩⟩
theorem ds_fld (c : Cls X.K C) (n : NoAttr X.K C f) (ho : PD X o wo) (hv : PD X value wv) (hs : swapsWith value (some (.Attribute o f pos')) pos.line X.env = pure false := by rfl) : PDS X (.Assign [.Attribute o f pos'] value pos) (wSetFld C f wo wv) :=
  PS.weak (ps_fld ho hv hs) fun E σ H ⟨Γ, M, P, R, s, a, h, q⟩ =>
    ⟨Γ, M, P, _, s, a, h, fun d1 M1 h1 v1 P1 H1 g1 r1 => ⟨Γ, M1, P1, _, s.up g1.le, g1.sat, h1, fun d2 M2 ⟨b, fs, A, B, e1, e2, hl, h2⟩ v2 P2 H2 g2 r2 => by
      subst e1 e2
      cases r2
      obtain ⟨_, dx, vs, hb, hf⟩ := g2.sat.ob b (MO.ins C fs) (by simp)
      refine ⟨b, C, dx, vs, rfl, hb, c, n, by rw [hf.length]; exact hl, ?_⟩
      have g3 := Grow.wrote (o' := MO.ins C (putD f d1 fs)) (ho := .ins C dx (putF f v1 vs)) g2.sat ⟨dx, _, upd_same, hf.put (r1.up g2.le)⟩
      exact q.nx _ _ h2 _ _ _ ((g1.trans g2).trans g3) (s.up (g1.le.trans g2.le))⟩⟩
end

abbrev ASp := List D → Mp → KD → Prop
def spOf (K : PySem.W.Frag) (f : ASp) : Sp := fun vs H Q _ => ∃ ds M P Φ, RepAll K P vs ds ∧ Sat K P M H ∧ f ds M Φ ∧ Post K P M H Φ Q
def wCall (f : ASp) (w : WA) : WE := fun Γ M Φ => w Γ M fun ds M1 => f ds M1 Φ
section
variable {X : Cx} {k : Nat} {f : Addr} {fd : FuncData} {ps : List Str} {sp : ASp} {x : Str} {e : Expr} {es : List Expr} {wa : WA} {p pos : Pos}
theorem call_of {K : PySem.W.Frag} {E : XK} (σ : St) (H : Hp) (Q : VK) : tOf K (wCall sp wa) σ H Q → tCall (spOf K sp) [] E (taOf K wa) σ H Q := fun ⟨Γ, M, P, Φ, s, a, h, q⟩ =>
  ⟨Γ, M, P, _, s, a, h, fun ds M1 h1 vs P1 H1 g r => ⟨ds, M1, P1, Φ, by rw [List.append_nil]; exact r, g.sat, h1, q.mk g⟩⟩
theorem d_call (F : FnOk X.prog X.w X.K X.mg X.base CX0 k f fd ps (spOf X.K sp)) (hr : Room k X.A) (hm : X.mg x = some (.ref f)) (hk : PySem.W.keepIn X.K (.ref f) = true) (hb : Binds X.K fd ps []) (ha : PDA X (e :: es) wa) (hg : Gl X x := by rfl)
    (hdb : (x == ("__debug__" : Str)) = false := by decide) (he : starEach (e :: es) X.env = (false, eval e X.env) :: starEach es X.env := by rfl) (hpl : (backTo pos (starEach es X.env)).any (·.1) = false := by rfl) : PD X (.Call (.Name x p) (e :: es) [] pos) (wCall sp wa) :=
  PE.weak (pe_call F hr hg hm hk hb .nil pass0 ha hdb he hpl) call_of
/-- a built-in by its name -/
def wCB (r : ARC) (w : WA) : WE := fun Γ M Φ => w Γ M fun ds M1 => r ds M1 Φ
theorem cb_of {K : PySem.W.Frag} {r : ARC} (σ : St) (H : Hp) (Q : VK) : tOf K (wCB r wa) σ H Q → tCB (cOf K r) (taOf K wa) σ H Q := fun ⟨Γ, M, P, Φ, s, a, h, q⟩ =>
  ⟨Γ, M, P, _, s, a, h, fun ds M1 h1 vs P1 H1 g r => ⟨ds, M1, P1, Φ, r, g.sat, h1, q.mk g⟩⟩
theorem d_callB {id : String} {r : ARC} (hc : CallR X (.builtin id) (cOf X.K r)) (hm : X.mg x = none) (hv : bootBuiltins x = some (.builtin id)) (ha : PDA X (e :: es) wa) (hg : Gl X x := by rfl) (hn : x ≠ "__name__" := by decide) (hdb : (x == ("__debug__" : Str)) = false := by decide)
    (he : starEach (e :: es) X.env = (false, eval e X.env) :: starEach es X.env := by rfl) (hpl : (backTo pos (starEach es X.env)).any (·.1) = false := by rfl) : PD X (.Call (.Name x p) (e :: es) [] pos) (wCB r wa) :=
  PE.weak (pe_callB hc hg hm hv ha hn hdb he hpl) cb_of
theorem d_callTy {T : String} {r : ARC} (hc : CallR X (.type T) (cOf X.K r)) (hm : X.mg x = none) (hv : bootBuiltins x = some (.type T)) (ha : PDA X (e :: es) wa) (hg : Gl X x := by rfl) (hn : x ≠ "__name__" := by decide) (hdb : (x == ("__debug__" : Str)) = false := by decide)
    (he : starEach (e :: es) X.env = (false, eval e X.env) :: starEach es X.env := by rfl) (hpl : (backTo pos (starEach es X.env)).any (·.1) = false := by rfl) : PD X (.Call (.Name x p) (e :: es) [] pos) (wCB r wa) :=
  PE.weak (pe_callTy hc hg hm hv ha hn hdb he hpl) cb_of
end
/-- a new instance: its __init__'s promise at an owned thing without fields -/
def wMake (C : Addr) (f : ASp) (w : WA) : WE := fun Γ M Φ => w Γ M fun ds M1 => ∀ x, x ∉ dom M1 → f (.op (.ref x) :: ds) ((x, MO.ins C []) :: M1) fun d M2 => d = .non ∧ Φ (.op (.ref x)) M2
section
variable {X : Cx} {k : Nat} {C f : Addr} {fd : FuncData} {ps : List Str} {sp : ASp} {x : Str} {e : Expr} {es : List Expr} {wa : WA} {p pos : Pos}
theorem d_make (Mk_ : Mk X.K C f) (F : FnOk X.prog X.w X.K X.mg X.base CX0 k f fd ps (spOf X.K sp)) (hr : Room (k + 1) X.A) (hm : X.mg x = some (.ref C)) (hb : Binds X.K fd ps []) (ha : PDA X (e :: es) wa) (hg : Gl X x := by rfl)
    (hdb : (x == ("__debug__" : Str)) = false := by decide) (he : starEach (e :: es) X.env = (false, eval e X.env) :: starEach es X.env := by rfl) (hpl : (backTo pos (starEach es X.env)).any (·.1) = false := by rfl) : PD X (.Call (.Name x p) (e :: es) [] pos) (wMake C sp wa) :=
  PE.weak (pe_make Mk_ F hr hg hm hb .nil pass0 ha hdb he hpl) fun σ H Q ⟨Γ, M, P, Φ, s, a, h, q⟩ =>
    ⟨Γ, M, P, _, s, a, h, fun ds M1 h1 vs P1 H1 g r => fun y dx hy hdx ne => by
      have g1 : Grow X.K P1 M1 H1 P1 M1 (upd H1 dx (.own y)) := Grow.aside g.sat hdx
      have hy' : upd H1 dx (.own y) y = none := by rw [upd_ne (Ne.symm ne)]; exact hy
      have g2 : Grow X.K P1 M1 (upd H1 dx (.own y)) P1 ((y, MO.ins C []) :: M1) (upd (upd H1 dx (.own y)) y (.ins C dx [])) := Grow.owned g1.sat hy' ⟨dx, [], upd_same, .nil⟩
      refine ⟨.op (.ref y) :: ds, _, P1, _, .cons (.op _) (by rw [List.append_nil]; exact r), g2.sat, h1 y (nodom g.sat hy), fun d M2 ⟨e, h2⟩ v P2 H2 g3 rv => ?_⟩
      subst e
      cases rv
      exact ⟨rfl, q _ _ h2 _ _ _ (((g.trans g1).trans g2).trans g3) (.op _)⟩⟩
end

def startD (N : List Str) (ds : List D) : Ctx := ds.map some ++ List.replicate (N.length - ds.length) none
theorem slots_start {K : PySem.W.Frag} {P : Hp} {N : List Str} {vs : List V} {ds : List D} (r : RepAll K P vs ds) : Slots K P (start N vs) (startD N ds) := by
  have l := r.length
  refine ⟨by unfold L2.start startD; simp [l], fun i d h => ?_⟩
  unfold startD at h
  by_cases hi : i < ds.length
  · rw [List.getElem?_append_left (by simpa using hi), List.getElem?_map] at h
    obtain ⟨e, he, h2⟩ := Option.map_eq_some_iff.mp h
    cases h2
    obtain ⟨v, hv, rv⟩ := r.get he
    refine ⟨v, ?_, rv⟩
    unfold L2.start
    rw [List.getElem?_append_left (by simp [l]; exact hi), List.getElem?_map, hv]
    rfl
  · rw [List.getElem?_append_right (by simpa using Nat.le_of_not_lt hi)] at h
    have := List.mem_of_getElem? h
    have := List.eq_of_mem_replicate this
    cases this
/-- the value handed back, and what is still owned -/
def Fin (Φ : KD) : KD := fun d M => ∃ d2 M2, Sub M2 M ∧ Fz M M2 d d2 ∧ Φ d2 M2
def ends (Φ : KD) : AE := { nx := fun _ M => Fin Φ .non M, rt := Fin Φ }
theorem Fin.go {K : PySem.W.Frag} {P H P1 H1 : Hp} {M M1 : Mp} {Φ : KD} {Q : VK} {d : D} {v : V} (q : Post K P M H Φ Q) (f : Fin Φ d M1) (g : Grow K P M H P1 M1 H1) (r : Rep K P1 v d) : Q v H1 := by
  obtain ⟨d2, M2, sub, z, h⟩ := f
  exact q d2 M2 h v _ _ (g.trans (grow_frz g.sat sub)) (z.rep g.sat r)
section
variable {P : Program} {w : World} {K : PySem.W.Frag} {mg : Str → Option Value} {base : Heap}
theorem def_ok {x qual : Str} {st : Stmt} {f : Addr} {fd : FuncData} {N ps : List Str} {k : Nat} {sp : ASp} {b : WS} (F : Fun K x qual st f fd) (S : FnScope N ps (defScope st)) (len : ∀ ds M Φ, sp ds M Φ → ds.length = ps.length)
    (body : ∀ (cdv : Value) (A : Around) (outer : List Env) (s : Shared) (H : Hp) (E : XK), Room k (A.deeper (PyProof.Rows.envOfC qual (defScope st) s.heap.objs.size f cdv)) → PDB (cxOf CX0 P w K mg base N qual (defScope st) f cdv A outer s H E).nox (defBody st) b)
    (reads : ∀ ds M Φ, sp ds M Φ → b (ends Φ) (startD N ds) M) : FnOk P w K mg base CX0 (k + 1) f fd ps (spOf K sp) := by
  refine F.ok S (fun vs H Q E ⟨ds, M, P', Φ, r, s, h, q⟩ => ?_) (fun cdv A outer s H vs Q E hr ⟨ds, M, P', Φ, r, sa, h, q⟩ => ?_)
  · rw [r.length]
    exact len ds M Φ h
  · refine ⟨_, body cdv A outer s H E hr, startD N ds, M, P', ends Φ, slots_start r, sa, reads ds M Φ h, ⟨fun Γ' M' h' σ' P1 H1 g s' => ?_, fun d M' h' v P1 H1 g r' => ?_, fun _ _ h' => h'.elim, fun _ _ h' => h'.elim⟩⟩
    · exact Fin.go q h' g .non
    · exact Fin.go q h' g r'
end
theorem Fin.pure {Φ : KD} {d : D} {M : Mp} (h : Φ d M) : Fin Φ d M := ⟨d, M, List.Sublist.refl M, .same d, h⟩
theorem Fin.lst {Φ : KD} {M : Mp} {p : Addr} {ds : List D} (n : p ∉ dom M) (h : Φ (.lst ds) M) : Fin Φ (.op (.ref p)) ((p, MO.lst ds) :: M) :=
  ⟨.lst ds, M, List.sublist_cons_self _ _, .lst (List.mem_cons_self ..) n (fun i d e h1 h2 => by rw [h1] at h2; cases h2; exact .same d) rfl, h⟩
theorem Fin.lose {Φ : KD} {M M2 : Mp} {d : D} (s : Sub M2 M) (h : Φ d M2) : Fin Φ d M := ⟨d, M2, s, .same d, h⟩
end NF
namespace NF
open PySem L2

inductive Tg where
  | one (j : Nat) | many (js : List Nat)
def putAll : List Nat → List D → Ctx → Ctx
  | j :: js, d :: ds, Γ => putAll js ds (Γ.set j (some d))
  | _, _, Γ => Γ
def Tg.put : Tg → D → Ctx → Option Ctx
  | .one j, d, Γ => some (Γ.set j (some d))
  | .many js, .tup ds, Γ => if ds.length = js.length then some (putAll js ds Γ) else none
  | .many _, _, _ => none
def Tg.slots : Tg → List Nat
  | .one j => [j]
  | .many js => js
theorem wipe_set {σ : St} {j : Nat} {x : Option V} : ∀ {vs : List Nat}, j ∈ vs → wipe (σ.set j x) vs = wipe σ vs
  | v :: vs, h => by
    unfold wipe
    by_cases e : j = v
    · subst e
      by_cases m : j ∈ vs
      · rw [wipe_set m]
      · have : wipe (σ.set j x) vs = (wipe σ vs).set j x := by
          clear h
          induction vs with
          | nil => rfl
          | cons a r ih =>
            unfold wipe
            have hj : j ≠ a := fun z => m (by simp [z])
            rw [ih fun z => m (by simp [z]), List.set_comm _ _ hj]
        rw [this, List.set_set]
    · rw [wipe_set (by rcases List.mem_cons.mp h with z | z; exact absurd z e; exact z)]
theorem wipe_unset {σ : St} {j : Nat} : ∀ {vs : List Nat}, j ∈ vs → wipe (σ.set j none) vs = wipe σ vs := fun h => wipe_set h
theorem wipe_more {σ : St} : ∀ {us vs : List Nat}, (∀ j ∈ us, j ∈ vs) → wipe (wipe σ us) vs = wipe σ vs
  | [], _, _ => rfl
  | u :: us, vs, h => by
    show wipe ((wipe σ us).set u none) vs = _
    rw [wipe_set (h u (by simp)), wipe_more fun j hj => h j (by simp [hj])]
theorem wipe_wipe {σ : St} {vs : List Nat} : wipe (wipe σ vs) vs = wipe σ vs := wipe_more fun _ h => h
def gOf (K : PySem.W.Frag) (T : Tg) : TG := fun v σ H Q => ∃ d Γ P M Γ', Rep K P v d ∧ Slots K P σ Γ ∧ Sat K P M H ∧ T.put d Γ = some Γ' ∧ ∀ σ', Slots K P σ' Γ' → (∀ own, (∀ j ∈ T.slots, j ∈ own) → wipe σ' own = wipe σ own) → Q σ' H
theorem PG.weak {X : Cx} {e : Expr} {t t' : TG} (h : PG X e t) (k : ∀ v σ H Q, t' v σ H Q → t v σ H Q) : PG X e t' := ⟨fun pins s σ H v u Q I r hw => h.run pins s σ H v u Q I r (k v σ H Q hw)⟩
def gAll : List Nat → TGs
  | [] => gNil
  | j :: js => gCons (gName j) (gAll js)
theorem gAll_go {K : PySem.W.Frag} {P H : Hp} {Q : St → Hp → Prop} : ∀ {js : List Nat} {vs : List V} {ds : List D} {σ : St} {Γ : Ctx}, RepAll K P vs ds → ds.length = js.length → Slots K P σ Γ →
    (∀ σ', Slots K P σ' (putAll js ds Γ) → (∀ own, (∀ j ∈ js, j ∈ own) → wipe σ' own = wipe σ own) → Q σ' H) → gAll js vs σ H Q
  | [], _, ds, σ, Γ, r, l, s, k => by
    cases ds with
    | nil =>
      cases r
      exact ⟨rfl, k σ s fun _ _ => rfl⟩
    | cons _ _ => simp at l
  | j :: js, vs, ds, σ, Γ, r, l, s, k => by
    cases ds with
    | nil => simp at l
    | cons d ds =>
      cases r with
      | cons r1 r2 =>
        refine ⟨_, _, rfl, ?_⟩
        show gAll js _ (σ.set j (some _)) H Q
        refine gAll_go r2 (by simpa using l) (s.set r1 j) fun σ' s' w => k σ' s' fun own ho => ?_
        rw [w own fun i hi => ho i (by simp [hi]), wipe_set (ho j (by simp))]
section
variable {X : Cx} {pos : Pos}
theorem dg_one (j : Nat) {x : Str} (hN : X.N.Nodup) (hx : Loc X.env.scope x) (hi : X.N[j]? = some x := by rfl) (hf : X.fn x = true ∨ X.env.scope.names.lookup x = some .local := by first | exact .inl rfl | exact .inr rfl | assumption) : PG X (.Name x pos) (gOf X.K (.one j)) :=
  PG.weak (pg_name hN hi hx hf) fun v σ H Q ⟨d, Γ, P, M, Γ', r, s, a, e, k⟩ => by
    cases e
    exact k _ (s.set r j) fun own ho => wipe_set (ho j (by simp [Tg.slots]))
theorem dg_many (js : List Nat) {es : List Expr} {k : Nat} (hc : X.calm = true) (h : PGs X es (gAll js)) (hn : (assignEach es X.env).length = js.length := by rfl) (hst : (assignEach es X.env).findIdx? (·.1) = none := by rfl) : PG X (.Tuple es k pos) (gOf X.K (.many js)) :=
  PG.weak (pg_tup hc h hn hst) fun v σ H Q ⟨d, Γ, P, M, Γ', r, s, a, e, k⟩ => by
    cases d with
    | tup ds =>
      cases r with
      | tup t al =>
        simp only [Tg.put] at e
        split at e
        · rename_i hl
          cases e
          exact ⟨_, _, rfl, SqT.of (a.sub.tup t), by rw [al.length]; exact hl, gAll_go al hl s fun σ' s' w => k σ' s' w⟩
        · cases e
    | _ => simp [Tg.put] at e
end

structure ItD (K : PySem.W.Frag) (P : Hp) (ds : List D) (S : Mp → Prop) (J : It) : Prop where
  item : ∀ (i : Nat) d P' M' H', Le P P' → Sat K P' M' H' → S M' → ds[i]? = some d → J.go i H' ∧ ∀ x H'', J.yld i H' x H'' → ∃ P'', Grow K P' M' H' P'' M' H'' ∧ Rep K P'' x d
  stop : ∀ P' M' H', Le P P' → Sat K P' M' H' → S M' → J.stop ds.length H'
abbrev WI := Ctx → Mp → (List D → (Mp → Prop) → Mp → Prop) → Prop
def iOf (K : PySem.W.Frag) (w : WI) : TI := fun σ H R => ∃ Γ M P Ψ, Slots K P σ Γ ∧ Sat K P M H ∧ w Γ M Ψ ∧ ∀ ds S M1, Ψ ds S M1 → ∀ P1 H1 J, Grow K P M H P1 M1 H1 → ItD K P1 ds S J → R J H1
theorem PI.weak {X : Cx} {tg e : Expr} {t t' : TI} (h : PI X tg e t) (k : ∀ σ H R, t' σ H R → t σ H R) : PI X tg e t' := ⟨fun pins s σ H R I hw => h.run pins s σ H R I (k σ H R hw)⟩
abbrev PID (X : Cx) (tg e : Expr) (w : WI) : Prop := PI X tg e (iOf X.K w)
def wIter (we : WE) : WI := fun Γ M Ψ => we Γ M fun d M1 => ∃ ds, Now M1 d (.lst ds) ∧ Ψ ds (fun M' => Now M' d (.lst ds)) M1
def wIterT (we : WE) : WI := fun Γ M Ψ => we Γ M fun d M1 => ∃ ds, d = .tup ds ∧ Ψ ds (fun _ => True) M1
def wIterS (we : WE) : WI := fun Γ M Ψ => we Γ M fun d M1 => ∃ x : Str, d = .str x ∧ Ψ (x.cps.toList.map fun c => D.str ⟨#[c]⟩) (fun _ => True) M1
def wRng1 (wa : WA) : WI := fun Γ M Ψ => wa Γ M fun ds M1 => ∃ j : Int, ds = [.int j] ∧ -(2 ^ 62) ≤ j ∧ j < 2 ^ 62 ∧ Ψ ((List.range j.toNat).map fun (i : Nat) => D.int i) (fun _ => True) M1
def wRng2 (wa : WA) : WI := fun Γ M Ψ => wa Γ M fun ds M1 => ∃ lo hi : Int, ds = [.int lo, .int hi] ∧ (-(2 ^ 62) ≤ lo ∧ lo < 2 ^ 62 ∧ -(2 ^ 62) ≤ hi ∧ hi < 2 ^ 62) ∧ Ψ ((List.range (hi - lo).toNat).map fun (i : Nat) => D.int (lo + i)) (fun _ => True) M1
section
variable {X : Cx} {tg e a b : Expr} {we : WE} {wa : WA} {p pos : Pos}
theorem di_list (he : PD X e we) : PID X tg e (wIter we) := PI.weak (pi_list he) fun σ H R ⟨Γ, M, P, Ψ, s, a, h, q⟩ =>
  ⟨Γ, M, P, _, s, a, h, fun d M1 ⟨ds, n, h1⟩ v P1 H1 g r => by
    obtain ⟨b, vs, rfl, hb, hr⟩ := n.sqL g.sat r
    refine ⟨b, rfl, ⟨vs, SqL.of hb⟩, q ds _ M1 h1 P1 H1 _ g ⟨fun i d' P' M' H' le sa nn hd => ?_, fun P' M' H' le sa nn => ?_⟩⟩
    · obtain ⟨b', vs', eb, hb', hr'⟩ := nn.sqL sa (r.up le)
      cases eb
      obtain ⟨x, hx, rx⟩ := hr'.get hd
      refine ⟨⟨vs', x, SqL.of hb', hx⟩, fun y H'' ⟨e1, e2⟩ => ⟨P', by rw [e1]; exact Grow.refl sa, ?_⟩⟩
      have := e2 vs' (SqL.of hb')
      rw [hx] at this
      cases this
      exact rx
    · obtain ⟨b', vs', eb, hb', hr'⟩ := nn.sqL sa (r.up le)
      cases eb
      exact ⟨vs', SqL.of hb', by rw [hr'.length]; exact Nat.le_refl _⟩⟩
theorem di_tup (he : PD X e we) : PID X tg e (wIterT we) := PI.weak (pi_tup he) fun σ H R ⟨Γ, M, P, Ψ, s, a, h, q⟩ =>
  ⟨Γ, M, P, _, s, a, h, fun d M1 ⟨ds, ed, h1⟩ v P1 H1 g r => by
    subst ed
    cases r with
    | tup t al =>
      refine ⟨_, rfl, ⟨_, SqT.of (g.sat.sub.tup t)⟩, q ds _ M1 h1 P1 H1 _ g ⟨fun i d' P' M' H' le sa nn hd => ?_, fun P' M' H' le sa nn => ?_⟩⟩
      · obtain ⟨x, hx, rx⟩ := (al.up le).get hd
        have tt := SqT.of (K := X.K) (sa.sub.tup (le.tup t))
        refine ⟨⟨_, x, tt, hx⟩, fun y H'' ⟨e1, e2⟩ => ⟨P', by rw [e1]; exact Grow.refl sa, ?_⟩⟩
        have := e2 _ tt
        rw [hx] at this
        cases this
        exact rx
      · exact ⟨_, SqT.of (sa.sub.tup (le.tup t)), by rw [al.length]; exact Nat.le_refl _⟩⟩
theorem di_str (he : PD X e we) : PID X tg e (wIterS we) := PI.weak (pi_str he) fun σ H R ⟨Γ, M, P, Ψ, s, a, h, q⟩ =>
  ⟨Γ, M, P, _, s, a, h, fun d M1 ⟨x, ed, h1⟩ v P1 H1 g r => by
    subst ed
    cases r
    refine ⟨x, rfl, q _ _ M1 h1 P1 H1 _ g ⟨fun i d' P' M' H' le sa nn hd => ?_, fun P' M' H' le sa nn => ?_⟩⟩
    · rw [List.getElem?_map] at hd
      obtain ⟨c, hc, rfl⟩ := Option.map_eq_some_iff.mp hd
      have hc' : x.cps[i]? = some c := by simpa using hc
      refine ⟨(Array.getElem?_eq_some_iff.mp hc').1, fun y H'' ⟨e1, c', hc2, e2⟩ => ⟨P', by rw [e1]; exact Grow.refl sa, ?_⟩⟩
      rw [hc'] at hc2
      cases hc2
      subst e2
      exact .str _
    · show x.cps.size ≤ _
      simp⟩
theorem range_itd {K : PySem.W.Frag} {P1 : Hp} (lo : Int) (n : Nat) : ItD K P1 ((List.range n).map fun (i : Nat) => D.int (lo + i)) (fun _ => True) (Itr lo n) := ⟨fun i d' P' M' H' le sa nn hd => by
    rw [List.getElem?_map] at hd
    obtain ⟨c, hc, rfl⟩ := Option.map_eq_some_iff.mp hd
    obtain ⟨hi, hc'⟩ := List.getElem?_eq_some_iff.mp hc
    simp at hi hc'
    subst hc'
    exact ⟨hi, fun y H'' ⟨e1, e2⟩ => ⟨P', by rw [e1]; exact Grow.refl sa, by rw [e2]; exact .int _⟩⟩, fun P' M' H' le sa nn => by
    show n ≤ _
    simp⟩
theorem di_range1 (hm : X.mg "range" = none) (ha : PDA X [a] wa) (hg : Gl X "range" := by rfl) (hs : starEach [a] X.env = [(false, eval a X.env)] := by rfl) : PID X tg (.Call (.Name "range" p) [a] [] pos) (wRng1 wa) := PI.weak (pi_range1 hg hm ha hs) fun σ H R ⟨Γ, M, P, Ψ, s, a, h, q⟩ =>
  ⟨Γ, M, P, _, s, a, h, fun ds M1 ⟨j, ed, b1, b2, h1⟩ vs P1 H1 g r => by
    subst ed
    cases r with
    | cons r1 r2 =>
      cases r1
      cases r2
      refine ⟨j, rfl, b1, b2, q _ _ M1 h1 P1 H1 _ g ?_⟩
      have := range_itd (K := X.K) (P1 := P1) 0 j.toNat
      simpa using this⟩
theorem di_range2 (hm : X.mg "range" = none) (ha : PDA X [a, b] wa) (hg : Gl X "range" := by rfl) (hs : starEach [a, b] X.env = [(false, eval a X.env), (false, eval b X.env)] := by rfl) (hs2 : starEach [b] X.env = [(false, eval b X.env)] := by rfl) : PID X tg (.Call (.Name "range" p) [a, b] [] pos) (wRng2 wa) := PI.weak (pi_range2 hg hm ha hs hs2) fun σ H R ⟨Γ, M, P, Ψ, s, a, h, q⟩ =>
  ⟨Γ, M, P, _, s, a, h, fun ds M1 ⟨lo, hi, ed, bb, h1⟩ vs P1 H1 g r => by
    subst ed
    cases r with
    | cons r1 r2 =>
      cases r1
      cases r2 with
      | cons r3 r4 =>
        cases r3
        cases r4
        exact ⟨lo, hi, rfl, bb, q _ _ M1 h1 P1 H1 _ g (range_itd lo _)⟩⟩
end

def wFor (wi : WI) (T : Tg) (wb : WS) : WS := fun R Γ M => wi Γ M fun ds S M1 => ∃ J : Nat → Ctx → Mp → Prop, J 0 Γ M1 ∧ (∀ i Γ' M', J i Γ' M' → S M') ∧
  (∀ i d Γ' M', ds[i]? = some d → J i Γ' M' → ∃ Γ2, T.put d Γ' = some Γ2 ∧ wb { R with nx := J (i + 1), ct := J (i + 1), bk := R.nx } Γ2 M') ∧ ∀ Γ' M', J ds.length Γ' M' → R.nx Γ' M'
theorem ds_for {X : Cx} {tg iter : Expr} {body : List Stmt} {wi : WI} {T : Tg} {wb : WS} {pos : Pos} (hp : PassesOwn (model X.prog X.w) X.A X.env X.xe) (hc : X.calm = true) (hi : PID X tg iter wi) (hg : PG X tg (gOf X.K T)) (hb : PDB X body wb)
    (hs : ∀ x, foldedSetIterable iter X.env x = pure x := by intro _; rfl) : PDS X (.For tg iter body [] pos) (wFor wi T wb) := PS.weak (ps_for hp hc hi hg hb hs) fun E σ H ⟨Γ, M, P, R, s, a, h, q⟩ =>
  ⟨Γ, M, P, _, s, a, h, fun ds S M1 ⟨J, j0, jS, jt, jd⟩ P1 H1 It g1 itd => by
    refine ⟨fun i m σ' H' => m = ds.length - i ∧ i ≤ ds.length ∧ ∃ Γ' M' P', J i Γ' M' ∧ Slots X.K P' σ' Γ' ∧ Grow X.K P M H P' M' H' ∧ Le P1 P', ⟨_, rfl, Nat.zero_le _, Γ, M1, P1, j0, s.up g1.le, g1, Le.refl _⟩, ?_⟩
    rintro i m σ' H' ⟨rfl, hi, Γ', M', P', hj, s', g', le⟩
    have hS := jS i Γ' M' hj
    by_cases hlt : i < ds.length
    · obtain ⟨go, y⟩ := itd.item i ds[i] P' M' H' le g'.sat hS (List.getElem?_eq_getElem hlt)
      refine .inr ⟨go, fun σ2 H2 => ∃ Γ' M' P', J (i + 1) Γ' M' ∧ Slots X.K P' σ2 Γ' ∧ Grow X.K P M H P' M' H2 ∧ Le P1 P', fun σ2 H2 hN => ⟨ds.length - (i + 1), by omega, rfl, hlt, hN⟩, fun x H2 hy => ?_⟩
      obtain ⟨P2, g2, r2⟩ := y x H2 hy
      obtain ⟨Γ2, e2, b2⟩ := jt i _ Γ' M' (List.getElem?_eq_getElem hlt) hj
      have g3 := g'.trans g2
      exact ⟨_, Γ', P2, M', Γ2, r2, s'.up g2.le, g2.sat, e2, fun σ2 s2 _ => ⟨Γ2, M', P2, _, s2, g2.sat, b2, ⟨fun Γ3 M3 h3 σ3 P3 H3 g4 s3 => ⟨Γ3, M3, P3, h3, s3, g3.trans g4, (le.trans g2.le).trans g4.le⟩, (q.mk' g3).rt,
        (q.mk' g3).nx, fun Γ3 M3 h3 σ3 P3 H3 g4 s3 => ⟨Γ3, M3, P3, h3, s3, g3.trans g4, (le.trans g2.le).trans g4.le⟩⟩⟩⟩
    · have e : i = ds.length := by omega
      subst e
      exact .inl ⟨itd.stop P' M' H' le g'.sat hS, q.nx _ _ (jd Γ' M' hj) _ _ _ g' s'⟩⟩
/-- while -/
def wWhile (c : WT) (b : WS) : WS := fun R Γ M => ∃ J : Nat → Ctx → Mp → Prop, (∃ m, J m Γ M) ∧ ∀ m Γ' M', J m Γ' M' → c Γ' M' fun k M1 => (k = true → b { R with nx := fun Γ2 M2 => ∃ m', m' < m ∧ J m' Γ2 M2, ct := fun Γ2 M2 => ∃ m', m' < m ∧ J m' Γ2 M2, bk := R.nx } Γ' M1) ∧ (k = false → R.nx Γ' M1)
theorem ds_while {X : Cx} {c : Expr} {body : List Stmt} {wc : WT} {wb : WS} {pos : Pos} (hp : PassesOwn (model X.prog X.w) X.A X.env X.xe) (hc : PDT X c wc) (hb : PDB X body wb) : PDS X (.While c body [] pos) (wWhile wc wb) := PS.weak (ps_while hp hc hb) fun E σ H ⟨Γ, M, P, R, s, a, ⟨J, ⟨m0, j0⟩, jt⟩, q⟩ => by
  refine ⟨fun m σ' H' => ∃ Γ' M' P', J m Γ' M' ∧ Slots X.K P' σ' Γ' ∧ Grow X.K P M H P' M' H', ⟨m0, Γ, M, P, j0, s, Grow.refl a⟩, ?_⟩
  rintro m σ' H' ⟨Γ', M', P', hj, s', g'⟩
  refine ⟨Γ', M', P', _, s', g'.sat, jt m Γ' M' hj, fun k M1 ⟨h1, h2⟩ P1 H1 g1 => ?_⟩
  cases k with
  | true =>
    rw [if_pos rfl]
    refine ⟨fun σ2 H2 => ∃ m', m' < m ∧ ∃ Γ' M' P', J m' Γ' M' ∧ Slots X.K P' σ2 Γ' ∧ Grow X.K P M H P' M' H2, fun σ2 H2 h => h, ⟨Γ', M1, P1, _, s'.up g1.le, g1.sat, h1 rfl, ⟨fun Γ3 M3 ⟨m', hm, h3⟩ σ3 P3 H3 g4 s3 => ⟨m', hm, Γ3, M3, P3, h3, s3, (g'.trans g1).trans g4⟩, (q.mk' (g'.trans g1)).rt, (q.mk' (g'.trans g1)).nx,
      fun Γ3 M3 ⟨m', hm, h3⟩ σ3 P3 H3 g4 s3 => ⟨m', hm, Γ3, M3, P3, h3, s3, (g'.trans g1).trans g4⟩⟩⟩⟩
  | false =>
    rw [if_neg Bool.false_ne_true]
    exact q.nx _ _ (h2 rfl) _ _ _ (g'.trans g1) (s'.up g1.le)

theorem Grow.side {K : PySem.W.Frag} {P P' H H' : Hp} {M M' : Mp} {p : Addr} {o : HO} (g : Grow K P M H P' M' H') (hp : H p = none) (hp' : P' p = none) (hm : p ∉ dom M') (hx : ∀ q, H' p ≠ some (LamX.CodeO p q)) : Grow K P M H P' M' (upd H' p o) := by
  refine ⟨g.le, ⟨fun a u h => ?_, g.sat.nd, fun a mo hmo => ?_⟩, fun a u h n => ?_, g.newP, g.newM⟩
  · have e : a ≠ p := fun e => by rw [e, hp'] at h; cases h
    rw [upd_ne e]; exact g.sat.sub a u h
  · obtain ⟨h1, h2⟩ := g.sat.ob a mo hmo
    have e : a ≠ p := fun e => hm (by rw [← e]; exact List.mem_map.mpr ⟨_, hmo, rfl⟩)
    exact ⟨h1, h2.up (Le.refl _) (upd_ne e) fun c q z => by
      have ec : c ≠ p := fun e => hx q (by rw [e] at z; exact z)
      rw [upd_ne ec]
      exact z⟩
  · rw [upd_ne (ne_of_none h hp)]; exact g.keep a u h n
theorem Grow.lone {K : PySem.W.Frag} {P P' H H' : Hp} {M M' : Mp} {p : Addr} {o : HO} (g : Grow K P M H P' M' H') (hp : H p = some o) (hp' : P p = none) (hm : p ∉ dom M) (nd : ∀ kvs, o ≠ .dT kvs) (nt : ∀ xs, o ≠ .tup xs) : H' p = some o ∧ P' p = none ∧ p ∉ dom M' := by
  refine ⟨?_, ?_, fun z => ?_⟩
  · rcases g.keep p o hp hm with h | ⟨_, kvs, e, _⟩
    · exact h
    · exact absurd e (nd kvs)
  · cases e : P' p with
    | none => rfl
    | some u =>
      rcases g.newP p u e with ⟨o', h⟩ | h | h | ⟨xs, _, h⟩
      · rw [hp'] at h; cases h
      · rw [hp] at h; cases h
      · exact absurd h hm
      · rw [hp] at h; exact absurd (Option.some.inj h) (nt xs)
  · rcases g.newM p z with h | h
    · exact hm h
    · rw [hp] at h; cases h
def wYes : WT := fun _ M Ψ => Ψ true M
def wLc (wi : WI) (T : Tg) (wc : WT) (we : WE) (own : List Nat) : WE := fun Γ M Φ => wi Γ M fun ds S M1 => ∃ J : Nat → List D → Mp → Prop, J 0 [] M1 ∧ (∀ i acc M', J i acc M' → S M') ∧
  (∀ i d acc M', ds[i]? = some d → J i acc M' → ∃ Γ2, T.put d (gwipe Γ own) = some Γ2 ∧ wc Γ2 M' fun b M2 => (b = true → we Γ2 M2 fun y M3 => acc.length < sizeLine ∧ J (i + 1) (acc ++ [y]) M3) ∧ (b = false → J (i + 1) acc M2)) ∧ ∀ acc M', J ds.length acc M' → Φ (.lst acc) M'
theorem PTs.weak {X : Cx} {e : List Expr} {t t' : TT} (h : PTs X e t) (k : ∀ σ H Q, t' σ H Q → t σ H Q) : PTs X e t' := ⟨fun pins s σ H Q I hw => h.run pins s σ H Q I (k σ H Q hw)⟩
theorem dts_nil {X : Cx} : PTs X [] (ttOf X.K wYes) := PTs.weak pts_nil fun σ H Q ⟨Γ, M, P, Φ, s, a, h, q⟩ => q true M h P H (Grow.refl a)
theorem dts_one {X : Cx} {c : Expr} {wc : WT} (h : PDT X c wc) : PTs X [c] (ttOf X.K wc) := pts_one h
theorem lc_of {K : PySem.W.Frag} {wi : WI} {T : Tg} {wc : WT} {we : WE} {own : List Nat} (ho : ∀ j ∈ T.slots, j ∈ own) (σ : St) (H : Hp) (Q : VK) : tOf K (wLc wi T wc we own) σ H Q → tLc (iOf K wi) (gOf K T) (ttOf K wc) (tOf K we) own σ H Q := fun ⟨Γ, M, P, Φ, s, a, h, q⟩ =>
  ⟨Γ, M, P, _, s, a, h, fun ds S M1 ⟨J, j0, jS, jt, jd⟩ P1 H1 It g1 itd Dl hD => by
    have p1 : P1 Dl = none := g1.sat.sub.free hD
    have m1 : Dl ∉ dom M1 := nodom g1.sat hD
    have lk : ∀ vs kvs, HO.lst vs ≠ HO.dT kvs := fun _ _ z => by cases z
    have lt : ∀ vs xs, HO.lst vs ≠ HO.tup xs := fun _ _ z => by cases z
    refine ⟨fun i m H' => m = ds.length - i ∧ i ≤ ds.length ∧ ∃ acc M' P' vs, J i acc M' ∧ H' Dl = some (.lst vs) ∧ RepAll K P' vs acc ∧ P' Dl = none ∧ Dl ∉ dom M' ∧ Grow K P1 M1 H1 P' M' H', ⟨_, rfl, Nat.zero_le _, [], M1, P1, [], j0, upd_same, .nil, p1, m1, (Grow.refl g1.sat).side hD p1 m1 (fun q z => by rw [hD] at z; cases z)⟩, ?_⟩
    rintro i m H' ⟨rfl, hi, acc, M', P', vs, hj, hl, ra, pd, md, g'⟩
    have hS := jS i acc M' hj
    by_cases hlt : i < ds.length
    · obtain ⟨go, y⟩ := itd.item i ds[i] P' M' H' g'.le g'.sat hS (List.getElem?_eq_getElem hlt)
      refine .inr ⟨go, fun H2 => ∃ acc M' P' vs, J (i + 1) acc M' ∧ H2 Dl = some (.lst vs) ∧ RepAll K P' vs acc ∧ P' Dl = none ∧ Dl ∉ dom M' ∧ Grow K P1 M1 H1 P' M' H2, fun H2 hN => ⟨ds.length - (i + 1), by omega, rfl, hlt, hN⟩, fun x H2 hy => ?_⟩
      obtain ⟨P2, g2, r2⟩ := y x H2 hy
      obtain ⟨Γ2, e2, b2⟩ := jt i _ acc M' (List.getElem?_eq_getElem hlt) hj
      obtain ⟨l2, pd2, md2⟩ := g2.lone hl pd md (lk vs) (lt vs)
      refine ⟨_, gwipe Γ own, P2, M', Γ2, r2, ((s.up g1.le).up (g'.le.trans g2.le)).wipe own, g2.sat, e2, fun σ2 s2 w2 => ⟨?_, Γ2, M', P2, _, s2, g2.sat, b2, fun b M2 ⟨hb1, hb2⟩ P3 H3 g3 => ?_⟩⟩
      · rw [w2 own ho, wipe_wipe]
      · obtain ⟨l3, pd3, md3⟩ := g3.lone l2 pd2 md2 (lk vs) (lt vs)
        cases b with
        | true =>
          rw [if_pos rfl]
          refine ⟨Γ2, M2, P3, _, s2.up g3.le, g3.sat, hb1 rfl, fun y M3 ⟨hz, h3⟩ v P4 H4 g4 r4 => ?_⟩
          obtain ⟨l4, pd4, md4⟩ := g4.lone l3 pd3 md3 (lk vs) (lt vs)
          refine ⟨vs, l4, by rw [ra.length]; exact hz, _, _, P4, _, h3, upd_same, (ra.up ((g2.le.trans g3.le).trans g4.le)).append (.one r4), pd4, md4, (((g'.trans g2).trans g3).trans g4).side hD pd4 md4 (fun q z => by rw [l4] at z; unfold LamX.CodeO at z; cases z)⟩
        | false =>
          rw [if_neg Bool.false_ne_true]
          exact ⟨acc, M2, P3, vs, hb2 rfl, l3, ra.up (g2.le.trans g3.le), pd3, md3, (g'.trans g2).trans g3⟩
    · have e : i = ds.length := by omega
      subst e
      refine .inl ⟨itd.stop P' M' H' g'.le g'.sat hS, q _ _ (jd acc M' hj) _ (upd P' Dl (.lst vs)) H' (g1.trans ⟨g'.le.trans (Le.new pd), ⟨fun b u hb => ?_, g'.sat.nd, fun b mo hmo => ?_⟩, g'.keep, fun b u hb => ?_, g'.newM⟩) (.lst upd_same (ra.up (Le.new pd)))⟩
      · by_cases eb : b = Dl
        · subst eb; rw [upd_same] at hb; cases hb; exact .inl hl
        · rw [upd_ne eb] at hb; exact g'.sat.sub b u hb
      · obtain ⟨h1, h2⟩ := g'.sat.ob b mo hmo
        have eb : b ≠ Dl := fun e => md (by rw [← e]; exact List.mem_map.mpr ⟨_, hmo, rfl⟩)
        exact ⟨by rw [upd_ne eb]; exact h1, h2.up (Le.new pd) rfl (Codes.refl _)⟩
      · by_cases eb : b = Dl
        · subst eb; exact .inr (.inl hD)
        · rw [upd_ne eb] at hb; exact g'.newP b u hb⟩
section
variable {X : Cx}
theorem d_lc {elt tg iter : Expr} {ifs : List Expr} {scope : Scope} (own : List (Str × Nat)) {pos : Pos} {wi : WI} {T : Tg} {wc : WT} {we : WE} (hc : X.calm = true) (hN : X.N.Nodup) (hi : PID X tg iter wi) (ok : BlkOk X.N X.env.scope scope own)
    (hg : ∀ (s : Shared) (H : Hp) (C : Addr) (cl : List (Str × Addr)) (fp : List Addr), PG (X.blk s H scope (compEnvC scope cl C X.env) fp) tg (gOf X.K T)) (ht : ∀ (s : Shared) (H : Hp) (C : Addr) (cl : List (Str × Addr)) (fp : List Addr), PTs (X.blk s H scope (compEnvC scope cl C X.env) fp) ifs (ttOf X.K wc))
    (he : ∀ (s : Shared) (H : Hp) (C : Addr) (cl : List (Str × Addr)) (fp : List Addr), PE (X.blk s H scope (compEnvC scope cl C X.env) fp) elt (tOf X.K we)) (ho : ∀ j ∈ T.slots, j ∈ own.map (·.2) := by decide) (hs : ∀ x, foldedSetIterable iter X.env x = pure x := by intro _; rfl) :
    PD X (.ListComp elt [⟨tg, iter, ifs, 0⟩] scope pos) (wLc wi T wc we (own.map (·.2))) := PE.weak (pe_lc hc hN hi ok hg ht he hs) (lc_of ho)
theorem ds_setLc (i : Nat) {y : Str} {py : Pos} {elt tg iter : Expr} {ifs : List Expr} {scope : Scope} (own : List (Str × Nat)) {pos spos : Pos} {wi : WI} {T : Tg} {wc : WT} {we : WE} (hc : X.calm = true) (hN : X.N.Nodup) (hyl : X.env.scope.names.lookup y = some .local)
    (hsw : swapsWith (.ListComp elt [⟨tg, iter, ifs, 0⟩] scope pos) (some (.Name y py)) spos.line X.env = pure true) (hi : PID X tg iter wi) (ok : BlkOk X.N X.env.scope scope own)
    (hg : ∀ (s : Shared) (H : Hp) (C : Addr) (cl : List (Str × Addr)) (fp : List Addr), PG (X.blk s H scope (compEnvC scope cl C X.env) fp) tg (gOf X.K T)) (ht : ∀ (s : Shared) (H : Hp) (C : Addr) (cl : List (Str × Addr)) (fp : List Addr), PTs (X.blk s H scope (compEnvC scope cl C X.env) fp) ifs (ttOf X.K wc))
    (he : ∀ (s : Shared) (H : Hp) (C : Addr) (cl : List (Str × Addr)) (fp : List Addr), PE (X.blk s H scope (compEnvC scope cl C X.env) fp) elt (tOf X.K we)) (ho : ∀ j ∈ T.slots, j ∈ own.map (·.2) := by decide) (hy : X.N[i]? = some y := by rfl) (hs : ∀ x, foldedSetIterable iter X.env x = pure x := by intro _; rfl) :
    PDS X (.Assign [.Name y py] (.ListComp elt [⟨tg, iter, ifs, 0⟩] scope pos) spos) (wSet i (wLc wi T wc we (own.map (·.2)))) := PS.weak (ps_setLc hc hN hy hyl hsw hi ok hg ht he hs) fun E σ H ⟨Γ, M, P, R, s, a, h, q⟩ =>
  lc_of ho σ H _ ⟨Γ, M, P, _, s, a, h, fun d M1 h1 v P1 H1 g r => q.nx _ _ h1 _ _ _ g ((s.up g.le).set r i)⟩
end

def aLen : ARC := fun ds M Φ => match ds with
  | [.lst xs] => Φ (.int xs.length) M
  | [.tup xs] => Φ (.int xs.length) M
  | [.scr xs] => Φ (.int xs.length) M
  | [.str z] => z.length ≤ sizeLine ∧ Φ (.int z.length) M
  | [.op (.ref a)] => ∃ xs, (a, MO.lst xs) ∈ M ∧ Φ (.int xs.length) M
  | _ => False
theorem RepAll.one' {K : PySem.W.Frag} {P : Hp} {vs : List V} {d : D} (r : RepAll K P vs [d]) : ∃ v, vs = [v] ∧ Rep K P v d := by
  cases r with
  | cons r1 r2 =>
    cases r2
    exact ⟨_, rfl, r1⟩
section
variable {X : Cx}
theorem c_len : CallR X (.builtin "len") (cOf X.K aLen) := CallR.weak call_len fun vs H Q ⟨ds, M, P, Φ, r, s, h, q⟩ => by
  unfold aLen at h
  split at h
  · obtain ⟨v, rfl, r1⟩ := r.one'
    cases r1 with
    | lst t a => exact ⟨_, _, rfl, .inl ⟨_, SqL.of (s.sub.lst t), rfl⟩, by rw [a.length]; exact q.here s h (.int _)⟩
  · obtain ⟨v, rfl, r1⟩ := r.one'
    cases r1 with
    | tup t a => exact ⟨_, _, rfl, .inr ⟨_, SqT.of (s.sub.tup t), rfl⟩, by rw [a.length]; exact q.here s h (.int _)⟩
  · obtain ⟨v, rfl, r1⟩ := r.one'
    cases r1 with
    | scr _ t => exact ⟨_, _, rfl, .inl ⟨_, s.sub.sqL t, rfl⟩, by rw [List.length_map]; exact q.here s h (.int _)⟩
  · obtain ⟨v, rfl, r1⟩ := r.one'
    cases r1
    exact ⟨_, _, rfl, ⟨h.1, rfl⟩, q.here s h.2 (.int _)⟩
  · obtain ⟨xs, m, h⟩ := h
    obtain ⟨v, rfl, r1⟩ := r.one'
    cases r1
    obtain ⟨_, vs, h1, h2⟩ := s.ob _ _ m
    exact ⟨_, _, rfl, .inl ⟨_, SqL.of h1, rfl⟩, by rw [h2.length]; exact q.here s h (.int _)⟩
  · exact h.elim
theorem RepAll.bls {K : PySem.W.Frag} {P : Hp} : ∀ {ns : List Bool} {vs : List V}, RepAll K P vs (ns.map D.bl) → vs = ns.map V.bl
  | [], _, h => by cases h; rfl
  | n :: ns, _, h => by
    cases h with
    | cons h1 h2 => cases h1; rw [RepAll.bls h2]; rfl
def aAll : ARC := fun ds M Φ => ∃ bs : List Bool, ds = [.lst (bs.map D.bl)] ∧ Φ (.bl (bs.all id)) M
def aAny : ARC := fun ds M Φ => ∃ bs : List Bool, ds = [.lst (bs.map D.bl)] ∧ Φ (.bl (bs.any id)) M
theorem c_all (hc : X.calm = true) : CallR X (.builtin "all") (cOf X.K aAll) := CallR.weak (cr_all hc) fun vs H Q ⟨ds, M, P, Φ, r, s, ⟨bs, e, h⟩, q⟩ => by
  subst e
  obtain ⟨v, rfl, r1⟩ := r.one'
  cases r1 with
  | lst t a => exact ⟨_, bs, rfl, by rw [← RepAll.bls a]; exact SqL.of (s.sub.lst t), q.here s h (.bl _)⟩
theorem c_any (hc : X.calm = true) : CallR X (.builtin "any") (cOf X.K aAny) := CallR.weak (cr_any hc) fun vs H Q ⟨ds, M, P, Φ, r, s, ⟨bs, e, h⟩, q⟩ => by
  subst e
  obtain ⟨v, rfl, r1⟩ := r.one'
  cases r1 with
  | lst t a => exact ⟨_, bs, rfl, by rw [← RepAll.bls a]; exact SqL.of (s.sub.lst t), q.here s h (.bl _)⟩
def aStr : ARC := fun ds M Φ => ∃ i : Int, ds = [.int i] ∧ i.natAbs.log2 < 1920 ∧ Φ (.str (toString i)) M
theorem c_str : CallR X (.type "str") (cOf X.K aStr) := CallR.weak call_str_int fun vs H Q ⟨ds, M, P, Φ, r, s, ⟨i, e, hb, h⟩, q⟩ => by
  subst e
  obtain ⟨v, rfl, r1⟩ := r.one'
  cases r1
  exact ⟨i, rfl, hb, q.here s h (.str _)⟩
def aIntB : ARC := fun ds M Φ => ∃ b : Bool, ds = [.bl b] ∧ Φ (.int (if b then 1 else 0)) M
theorem c_intB : CallR X (.type "int") (cOf X.K aIntB) := CallR.weak call_int1 fun vs H Q ⟨ds, M, P, Φ, r, s, ⟨b, e, h⟩, q⟩ => by
  subst e
  obtain ⟨v, rfl, r1⟩ := r.one'
  cases r1
  exact .inr ⟨b, rfl, q.here s h (.int _)⟩
def aListOf : ARC := fun ds M Φ => ∃ d xs, ds = [d] ∧ Now M d (.lst xs) ∧ Φ (.lst xs) M
theorem c_list : CallR X (.type "list") (cOf X.K aListOf) := CallR.weak call_list_of fun vs H Q ⟨ds, M, P, Φ, r, s, ⟨d, xs, e, n, h⟩, q⟩ => by
  subst e
  obtain ⟨v, rfl, r1⟩ := r.one'
  obtain ⟨b, vs, rfl, hb, hr⟩ := n.sqL s r1
  exact ⟨b, vs, rfl, .inl (SqL.of hb), fun l hl => q _ _ h _ _ _ (Grow.laid s hl) (.lst upd_same (hr.up (Le.new (s.sub.free hl))))⟩
def wBM (r : D → List D → Mp → KD → Prop) (T : String) (wo : WE) (wa : WA) : WE := fun Γ M Φ => wo Γ M fun d M1 => (match d with
    | .lst _ => T = "list"
    | .op (.ref a) => T = "list" ∧ ∃ ds, (a, MO.lst ds) ∈ M1
    | .str _ => T = "str"
    | _ => False) ∧ wa Γ M1 fun ds M2 => r d ds M2 Φ
theorem bm_of {K : PySem.W.Frag} {r : D → List D → Mp → KD → Prop} {T : String} {wo : WE} {wa : WA} (σ : St) (H : Hp) (Q : VK) : tOf K (wBM r T wo wa) σ H Q → tBM K T (mOf K r) (tOf K wo) (taOf K wa) σ H Q := fun ⟨Γ, M, P, Φ, s, a, h, q⟩ =>
  ⟨Γ, M, P, _, s, a, h, fun d M1 ⟨ty, h1⟩ v P1 H1 g r1 => by
    refine ⟨?_, Γ, M1, P1, _, s.up g.le, g.sat, h1, fun ds M2 h2 vs P2 H2 g2 r2 => ⟨d, ds, M2, P2, Φ, r1.up g2.le, r2, g2.sat, h2, q.mk (g.trans g2)⟩⟩
    split at ty
    · cases r1 with
      | lst t al => exact .inl ⟨ty, _, SqL.of (g.sat.sub.lst t)⟩
    · cases r1
      obtain ⟨e, ds, m⟩ := ty
      obtain ⟨_, vs, h1, h2⟩ := g.sat.ob _ _ m
      exact .inl ⟨e, _, SqL.of h1⟩
    · cases r1; exact ty
    · exact ty.elim⟩
theorem MtM.weak {id : String} {r r' : V → List V → Hp → VK → Prop} (h : MtM X id r) (k : ∀ x vs H Q, r' x vs H Q → r x vs H Q) : MtM X id r' := fun pins s σ H x vs v us Q I rx rv q => h pins s σ H x vs v us Q I rx rv (k x vs H Q q)
theorem MtR.weak {id : String} {r r' : V → List V → Hp → VK → Prop} (h : MtR X id r) (k : ∀ x vs H Q, r' x vs H Q → r x vs H Q) : MtR X id r' := fun pins s σ H x vs v us Q I rx rv q => h pins s σ H x vs v us Q I rx rv (k x vs H Q q)
theorem d_bm {o e : Expr} {es : List Expr} {wo : WE} {wa : WA} {name : Str} {apos cpos : Pos} {T id : String} {r : D → List D → Mp → KD → Prop} (pa : PlainAttrs T) (slot : Slot T name id) (hty : typeOf (.builtin id) = pure (.type "method_descriptor")) (hm : MtR X id (mOf X.K r)) (ho : PD X o wo) (ha : PDA X (e :: es) wa)
    (hbase : attributeBase o name X.env (eval o X.env) = eval o X.env := by rfl)
    (hfew : ((backTo cpos (starEach (e :: es) X.env)).all (fun x => !x.1) && (backToKw cpos (keywordEach [] X.env)).all (fun x => x.1.isSome)
      && decide ((e :: es).length + ([] : List Keyword).length + (if ([] : List Keyword).isEmpty then 0 else 1) < 30)) = true := by rfl)
    (hline : (apos.endLine == cpos.line) = true := by rfl) (hs : starEach (e :: es) X.env = (false, eval e X.env) :: starEach es X.env := by rfl) (hplain : (backTo cpos (starEach es X.env)).any (·.1) = false := by rfl) :
    PD X (.Call (.Attribute o name apos) (e :: es) [] cpos) (wBM r T wo wa) := PE.weak (pe_bm pa slot hty hm ho ha hbase hfew hline hs hplain) bm_of
def aAppend : D → List D → Mp → KD → Prop := fun x ds M Φ => ∃ a y xs A B, x = .op (.ref a) ∧ ds = [y] ∧ M = A ++ (a, MO.lst xs) :: B ∧ xs.length < sizeLine ∧ Φ .non (A ++ (a, MO.lst (xs ++ [y])) :: B)
theorem m_append : MtR X "list.append" (mOf X.K aAppend) := MtR.weak mt_append fun x vs H Q ⟨d, ds, M, P, Φ, r1, r2, s, ⟨a, y, xs, A, B, e1, e2, e3, hl, h⟩, q⟩ => by
  subst e1 e2 e3
  cases r1
  obtain ⟨v, rfl, rv⟩ := r2.one'
  obtain ⟨_, us, h1, h2⟩ := s.ob a (MO.lst xs) (by simp)
  refine ⟨a, us, v, rfl, rfl, h1, by rw [h2.length]; exact hl, q _ _ h _ _ _ (Grow.wrote (o' := MO.lst (xs ++ [y])) s ⟨_, upd_same, h2.append (.one rv)⟩) .non⟩
end
end NF
namespace NF
open PySem L2

abbrev OkD (P : Program) (w : World) (K : PySem.W.Frag) (mg : Str → Option Value) (base : Heap) (f : Addr) (fd : FuncData) (ps : List Str) (k : Nat) (sp : ASp) : Prop := FnOk P w K mg base CX0 k f fd ps (spOf K sp)
/-- a def of the text, where it stands and how it is called -/
structure Dn (K : PySem.W.Frag) (mg : Str → Option Value) (x qual : Str) (st : Stmt) (ps : List Str) (f : Addr) (fd : FuncData) : Prop where
  F : Fun K x qual st f fd
  m : mg x = some (.ref f)
  b : Binds K fd ps []
theorem units65 {k : Nat} {A : Around} (r : Room k A) : A.units + 65 < cLine := by have := r.un; omega
section
variable {X : Cx} {k j : Nat} {f : Addr} {fd : FuncData} {ps : List Str} {sp : ASp} {x qual : Str} {st : Stmt} {e : Expr} {es : List Expr} {wa : WA} {p pos : Pos}
theorem d_calld {K : PySem.W.Frag} {mg : Str → Option Value} (Dd : Dn K mg x qual st ps f fd) (F : FnOk X.prog X.w X.K X.mg X.base CX0 k f fd ps (spOf X.K sp)) (hr : Room k X.A) (ha : PDA X (e :: es) wa) (hK : X.K = K := by rfl) (hM : X.mg = mg := by rfl) (hg : Gl X x := by rfl)
    (hdb : (x == ("__debug__" : Str)) = false := by decide) (he : starEach (e :: es) X.env = (false, eval e X.env) :: starEach es X.env := by rfl) (hpl : (backTo pos (starEach es X.env)).any (·.1) = false := by rfl) : PD X (.Call (.Name x p) (e :: es) [] pos) (wCall sp wa) := by
  subst hK hM
  exact d_call F hr Dd.m Dd.F.kp Dd.b ha hg hdb he hpl
end

def aGe : AR2 := fun x y M Φ => ∃ a b c d : Int, x = .tup [.int a, .int b] ∧ y = .tup [.int c, .int d] ∧ Φ (.bl (!HT.lexLt [a, b] [c, d])) M
section
variable {X : Cx}
theorem o_ge (hu : X.A.units < cLine) : OpR X (compareOp .GtE) (rOf X.K aGe) := by
  intro pins s σ H x y v u Q I rx ry ⟨dx, dy, M, P, Φ, r1, r2, sa, ⟨a, b, c, d, e1, e2, h⟩, q⟩
  subst e1 e2
  cases r1 with
  | tup t1 a1 =>
    cases r2 with
    | tup t2 a2 =>
      cases rx
      cases ry
      have v1 := RepAll.ints (ns := [a, b]) a1
      have v2 := RepAll.ints (ns := [c, d]) a2
      subst v1 v2
      obtain ⟨its, w1, p1, _⟩ := I.tuple (SqT.of (sa.sub.tup t1))
      obtain ⟨its2, w2, p2, _⟩ := I.tuple (SqT.of (sa.sub.tup t2))
      obtain ⟨u1, u2, rfl, ⟨k1, rfl⟩, ⟨k2, rfl⟩⟩ := vals2 w1
      obtain ⟨u3, u4, rfl, ⟨k3, rfl⟩, ⟨k4, rfl⟩⟩ := vals2 w2
      have R := Ob.RcOp.tuples_ge (A := X.A) (s := s) (e := fun j => if j = 0 then a == c else b == d) (r := fun j => if j = 0 then decide (c ≤ a) else decide (d ≤ b)) p1 p2 hu (fun j h1 h2 => by
        match j, h1 with
        | 0, _ => exact SeqAt.EqAt.int_int _ _ _ _
        | 1, _ => exact SeqAt.EqAt.int_int _ _ _ _
        | j + 2, h1 => simp at h1; omega) (fun j h1 h2 _ => by
        match j, h1 with
        | 0, _ => exact Ob.RcOp.ge_int _ _ _ _
        | 1, _ => exact Ob.RcOp.ge_int _ _ _ _
        | j + 2, h1 => simp at h1; omega)
      refine R X.prog X.w X.xe (EP X pins σ Q) ⟨.bl _, H, I, ?_, q.here sa h (.bl _)⟩
      show Value.bool _ = Value.bool _
      congr 1
      show Ob.lexAt _ _ true 0 2 = _
      simp only [Ob.lexAt, HT.lexLt]
      by_cases h1 : a = c
      · subst h1
        by_cases h2 : b = d
        · subst h2; simp
        · by_cases h3 : b < d
          · simp [h2, h3]
          · have : d ≤ b := by omega
            simp [h2, h3, this]
      · by_cases h3 : a < c
        · simp [h1, h3]
        · have : c ≤ a := by omega
          simp [h1, h3, this]
def aNotInK' (K : PySem.W.Frag) (d : Addr) : AR2 := aNotInK K d
theorem o_notInKd {K : PySem.W.Frag} {w : World} {d : Addr} {es : Array DictEntry} {n : Nat} (Dd : KDict K w d es n) (hK : X.K = K := by rfl) (hw : X.w = w := by rfl) : OpR X (compareOp .NotIn) (rOf X.K (aNotInK K d)) := by
  subst hK hw
  exact o_notInK Dd
theorem d_ixKd {K : PySem.W.Frag} {w : World} {a b : Expr} {wa wb : WE} {pos : Pos} (ha : PD X a wa) (hb : PD X b wb) (hK : X.K = K := by rfl) (hw : X.w = w := by rfl) (hs : PlainIx b := by exact fun _ _ => rfl) : PD X (.Subscript a b pos) (wOp (aIxK K w) wa wb) := by
  subst hK hw
  exact d_ixK ha hb hs
def wJoin (ws wl : WE) : WE := fun Γ M Φ => ws Γ M fun d M1 => ∃ z, d = .str z ∧ wl Γ M1 fun l M2 => ∃ zs : List Str, l = .lst (zs.map D.str) ∧ (zs.map Str.length).sum + zs.length * z.length ≤ 1000000 ∧ Φ (.str (Txt.join z zs)) M2
end
end NF
namespace NF
open PySem L2 PySem.W PySem.Calls PyProof.Rows PySem.SeqAt

/-- alike up to the first place where they differ -/
def alikeTo : List PyData → List PyData → Bool
  | x :: xs, y :: ys => alike x y && (!PyData.eqv x y || alikeTo xs ys)
  | _, _ => true
section
variable {prog : Program} {w : World} {A : Around} {s : Shared}
theorem katLex_to {b fin : Bool} {Q : Bool → Shared → Prop} : ∀ (xs ys : List PyData) (i : Nat) (vs ws : List Value) (as bs : List Addr), ReadsAll s.heap vs xs as → ReadsAll s.heap ws ys bs → alikeTo xs ys = true →
    A.units + min (PyData.depthAll xs) (PyData.depthAll ys) < cLine → (b = true → i = 0 → ∀ x r t, xs = x :: r → x ≠ .tuple t) → fin = decide (xs.length < ys.length) →
    Q (PyProof.Rows.lexLt itemOrd (keyToksAll xs) (keyToksAll ys)) s → KatLex prog w A b fin Q (vs.zip ws) i s
  | [], [], i, _, _, _, _, ra, rb, _, hu, hb, hf, hq => by
    exact katLex_alike [] [] i _ _ _ _ ra rb (by simp [alikeAll]) hu hb hf hq
  | [], y :: ys, i, _, _, _, _, ra, rb, _, hu, hb, hf, hq => by
    exact katLex_alike [] (y :: ys) i _ _ _ _ ra rb (by simp [alikeAll]) hu hb hf hq
  | x :: xs, [], i, _, _, _, _, ra, rb, _, hu, hb, hf, hq => by
    exact katLex_alike (x :: xs) [] i _ _ _ _ ra rb (by simp [alikeAll]) hu hb hf hq
  | x :: xs, y :: ys, i, _, _, _, _, ra, rb, h, hu, hb, hf, hq => by
    have h1 : alike x y = true := by
      simp only [alikeTo, Bool.and_eq_true] at h
      exact h.1
    have hfin : fin = decide (xs.length < ys.length) := by rw [hf]; simp
    cases ra with
    | cons rx rxs =>
      cases rb with
      | cons ry rys =>
        rw [List.zip_cons_cons]
        have hd : A.units + min x.depth y.depth < cLine := by
          simp only [PyData.depthAll] at hu
          omega
        have htl : A.units + min (PyData.depthAll xs) (PyData.depthAll ys) < cLine := by
          simp only [PyData.depthAll] at hu
          omega
        refine kat_cons (eqAt_alike x y A s _ _ _ _ rx ry h1 hd prog w _ _ ?_)
        cases e : PyData.eqv x y with
        | true =>
          rw [dataLt_all_yes h1 e] at hq
          have h2 : alikeTo xs ys = true := by
            simp only [alikeTo, e, Bool.and_eq_true, Bool.not_true, Bool.false_or] at h
            exact h.2
          exact kat_yes (katLex_to xs ys (i + 1) _ _ _ _ rxs rys h2 htl (fun _ z => absurd z (Nat.succ_ne_zero i)) hfin hq)
        | false =>
          rw [dataLt_all_no h1 e] at hq
          refine kat_no (oneLt_alike (fun z t => ?_) rx ry h1 (ne_none_of h1 e) hd hq)
          obtain ⟨z1, z2⟩ := Bool.and_eq_true_iff.mp z
          exact hb z1 (by simpa using z2) x xs t rfl
/-- a list of data that can be sorted: tuples, not empty, their first items of one kind -/
structure TupsTo (ds : List PyData) : Prop where
  tup : ∀ d, d ∈ ds → ∃ x r, d = .tuple (x :: r)
  fst : ∀ x r x' r', PyData.tuple (x :: r) ∈ ds → PyData.tuple (x' :: r') ∈ ds → alike x x' = true
  to : ∀ xs ys, PyData.tuple xs ∈ ds → PyData.tuple ys ∈ ds → alikeTo xs ys = true
theorem kind_some {h : Heap} {ds : List PyData} {v : Value} {d : PyData} {as : List Addr} (hd : d ∈ ds) (r : Reads h v d as) : (dataKind h ds).keyOf v = some (keyToks d) := by
  have q : ∃ d, d ∈ ds ∧ ∃ as, Reads h v d as := ⟨d, hd, as, r⟩
  obtain ⟨_, as', r'⟩ := q.choose_spec
  have e : q.choose = d := (PySem.Reads.unique r' d as r).1
  show (open Classical in if z : ∃ d, d ∈ ds ∧ ∃ as, Reads h v d as then some (keyToks z.choose) else none) = _
  rw [dif_pos q, e]
theorem sortsAt_to {vs : List Value} {ds : List PyData} (e : EachIs (fun v d => ∃ as, Reads s.heap v d as) vs ds) (t : TupsTo ds) (hu : ∀ d, d ∈ ds → A.units + d.depth < cLine) : SortsAt prog w A s (dataKind s.heap ds) vs := by
  refine ⟨fun v hv => ?_, ?_⟩
  · obtain ⟨d, hd, as, r⟩ := e.left v hv
    exact ⟨_, kind_some hd r⟩
  · cases hds : ds with
    | nil =>
      subst hds
      cases e
      refine ⟨general', fun E x y a b Q ha _ _ => ?_, fun z => absurd z (by simp)⟩
      obtain ⟨d, _, hd, _⟩ := dataKind_inv ha
      exact absurd hd (by simp)
    | cons d₀ ds₀ =>
      rw [← hds]
      have m0 : d₀ ∈ ds := by rw [hds]; simp
      obtain ⟨x₀, r₀, e₀⟩ := t.tup d₀ m0
      rw [e₀] at m0
      refine ⟨tuples' (dataType x₀ != Value.type "tuple"), fun E x y a b Q ha hb hq => ?_, fun h2 E Q hq => ?_⟩
      · obtain ⟨d, as, hd, ra, rfl⟩ := dataKind_inv ha
        obtain ⟨d', as', hd', rb, rfl⟩ := dataKind_inv hb
        obtain ⟨x1, r1, rfl⟩ := t.tup d hd
        obtain ⟨x2, r2, rfl⟩ := t.tup d' hd'
        have hroom := hu _ hd
        have hq' : Q (dataLt (.tuple (x1 :: r1)) (.tuple (x2 :: r2))) s := hq
        rw [dataLt_tuple] at hq'
        cases ra with
        | @tuple l o xs n _ _ g1 g2 g3 g4 =>
          cases rb with
          | @tuple l' o' xs' n' _ _ k1 k2 k3 k4 =>
            have n1 : xs.size = (x1 :: r1).length := by simpa using SeqAt.ReadsAll.length _ _ _ g4
            have n2 : xs'.size = (x2 :: r2).length := by simpa using SeqAt.ReadsAll.length _ _ _ k4
            refine kat_lt g1 g3 k1 k3 (katLex_to (x1 :: r1) (x2 :: r2) 0 _ _ _ _ g4 k4 (t.to _ _ hd hd') ?_ (fun hb' _ x r t' ex => ?_) (by rw [n1, n2]) hq')
            · simp only [PyData.depth] at hroom
              omega
            · obtain ⟨rfl, rfl⟩ := List.cons.inj ex
              have q := dataType_alike (t.fst _ _ _ _ hd m0)
              rw [← q] at hb'
              exact dataType_tuple hb' t'
      · obtain ⟨fs, t1, t2, t3⟩ := each_katTups e t.tup
        refine kat_kind (T := dataType x₀) t1 (by omega) (fun f hf => ?_) (beq_self_eq_true _) hq
        obtain ⟨x, r, as, m1, m2⟩ := t3 f hf
        rw [← dataType_alike (t.fst _ _ _ _ m1 m0)]
        exact looks_reads m2
variable {β : Type} {vs : List Value} {bs : List β} {enc : β → PyData} {R : Value → β → Prop} {E : Value → Shared → Prop}
theorem sorted_to {l : Addr} {Q : Value → Shared → Prop} (hl : s.heap.IsList l vs.toArray) (e : EachIs R vs bs) (er : EachIs (fun v b => ∃ as, Reads s.heap v (enc b) as) vs bs) (ht : TupsTo (bs.map enc)) (hL : bs.length ≤ sizeLine)
    (hu : ∀ b, b ∈ bs → A.units + 2 + (enc b).depth < cLine) (h : ∀ out, out.length = bs.length → EachIs R out (bs.mergeSort (dataLe false enc)) → Q (.ref (s.heap.objs.size + 1)) { s with heap := sortedAll s.heap vs (List.toArray out) }) :
    wpAny (model prog w) A (call (.builtin "sorted") [.ref l]) Q E s := by
  have er2 : EachIs (fun v b => ∃ as, Reads (sortingHeap (copyHeap s.heap vs) (s.heap.objs.size + 1) vs) v (enc b) as) vs bs := er.mono fun _ _ ⟨as, r⟩ =>
    ⟨as, PyProof.Rows.Reads.keeps (fun _ _ => sorting_copy_old) r⟩
  have em := each_map (R := fun v d => ∃ as, Reads (sortingHeap (copyHeap s.heap vs) (s.heap.objs.size + 1) vs) v d as) enc er2
  refine sorted_vals hl (sortsAt_to (s := { s with heap := sortingHeap (copyHeap s.heap vs) (s.heap.objs.size + 1) vs }) em ht (bound_map (A := A.in1.in1) hu)) (by rw [e.length]; exact hL) ?_
  refine h _ (by rw [sortVals_length false rfl]; exact e.length) ?_
  refine sortVals_each (κ := dataKind _ (bs.map enc)) (fun b => keyToks (enc b)) e (each_of_map enc ((each_mem em).mono fun _ _ ⟨⟨_, r⟩, hd⟩ => kind_some hd r))
end

theorem each_of_vals {K : PySem.W.Frag} {P : Hp} : ∀ {xs : List V} {us : List Value} {ds : List D}, Vals xs us → RepAll K P xs ds → EachIs (fun u d => ∃ x, RelV x u ∧ Rep K P x d) us ds
  | _, _, [], .nil, _ => .nil
  | _, _, _ :: _, .nil, h => by cases h
  | _, _, [], .cons _ _, h => by cases h
  | _, _, d :: ds, .cons r t, h => by
    cases h with
    | cons h1 h2 => exact .cons ⟨_, r, h1⟩ (each_of_vals t h2)
theorem vals_of_each {K : PySem.W.Frag} {P : Hp} : ∀ {us : List Value} {ds : List D}, EachIs (fun u d => ∃ x, RelV x u ∧ Rep K P x d) us ds → ∃ xs, Vals xs us ∧ RepAll K P xs ds
  | _, _, .nil => ⟨[], .nil, .nil⟩
  | _, _, .cons ⟨x, r, h⟩ t => by
    obtain ⟨xs, a, b⟩ := vals_of_each t
    exact ⟨x :: xs, .cons r a, .cons h b⟩
def dle (a b : D) : Bool := dataLe false D.py a b
structure SortOk (xs : List D) : Prop where
  plain : ∀ d, d ∈ xs → D.plain d = true ∧ D.deep d ≤ 60
  to : TupsTo (xs.map D.py)
def aSorted : ARC := fun ds M Φ => ∃ d xs, ds = [d] ∧ Now M d (.lst xs) ∧ SortOk xs ∧ Φ (.lst (xs.mergeSort dle)) M
section
variable {X : Cx}
theorem c_sorted {k : Nat} (hr : Room k X.A) : CallR X (.builtin "sorted") (cOf X.K aSorted) := by
  intro pins s σ H vs us Q I r ⟨ds, M, P, Φ, ra, sa, ⟨d, xs, e, n, so, h⟩, q⟩
  subst e
  obtain ⟨v, rfl, r1⟩ := ra.one'
  obtain ⟨b, ws, rfl, hb, hw⟩ := n.sqL sa r1
  rw [Vals.ref1 r]
  obtain ⟨its, rv, pl, hz⟩ := I.list (SqL.of hb)
  have hlen := hw.length
  have ee := each_of_vals rv hw
  have rd : EachIs (fun v b => ∃ as, Reads s.heap v (D.py b) as) its xs := (each_mem ee).mono fun u d ⟨⟨x, rx, rd⟩, hd⟩ =>
    Dp.reads I _ x u (dp_up sa.sub _ _ (D.rep_py d x (so.plain d hd).1 rd)) rx
  have hdep : ∀ d, d ∈ xs → X.A.units + 2 + (D.py d).depth < cLine := fun d hd => by
    have h1 := (so.plain d hd).2
    have h2 := D.depth_py d
    have h3 := hr.un
    omega
  refine sorted_to (enc := D.py) (R := fun u d => ∃ x, RelV x u ∧ Rep X.K P x d) (bs := xs) pl.isList ee rd so.to (by omega) hdep fun out ho eo => ?_
  obtain ⟨zs, hv, hz2⟩ := vals_of_each eo
  obtain ⟨ep, he⟩ := sortedAll_at s.heap its (List.toArray out)
  have fr : H (s.heap.objs.size + 1) = none := I.hok.fresh (Nat.le_succ _)
  have hl2 : zs.length ≤ sizeLine := by
    have := hz2.length
    rw [List.length_mergeSort] at this
    omega
  have g := Grow.laid (o := .lst zs) sa fr
  refine ⟨.ref _, upd H (s.heap.objs.size + 1) (.lst zs), I.laid (t' := s.toks) (fun _ _ => sortedAll_old) (Nat.le_succ _) ⟨hl2, out, ep, hv, he⟩, rfl, q _ _ h _ _ _ g ?_⟩
  exact .lst upd_same (hz2.up g.le)
end
end NF
namespace NF
open PySem L2 PySem.W PySem.Calls PyProof.Rows PySem.SeqAt

section
variable {X : Cx} {pins : List (Addr × Obj)} {σ : L2.St} {H : Hp} {s : Shared}
/-- a tracked dict with tuple keys, entry by entry -/
theorem dt_raw {a : Addr} {vs : List (List Key × V)} (I : Inv X pins σ H s) (e : Rd H a (.dT vs)) : vs.length ≤ sizeLine ∧ (a == sysModules) = false ∧ ∃ es ep, s.heap.DictRaw a es ep ∧ es.size = vs.length ∧
    ∀ (i : Nat) (k : List Key) (v : V), vs[i]? = some (k, v) → ∃ (hi : i < es.size) (q : Addr), es[i].key = .ref q ∧ H q = some (.tup (k.map kV)) ∧ RelV v es[i].val := by
  obtain ⟨z, hs, xs, pr, o, es, ep, ho, hx, hdt, he, _⟩ := e.ok I.hok
  have l1 : es.toList.length = xs.length := by rw [he, List.length_map]
  have l2 : vs.length = xs.length := Paired.length pr
  refine ⟨z, hs, es, ep, ⟨o, ho, hx, hdt⟩, by rw [← Array.length_toList]; omega, fun i k v hi => ?_⟩
  obtain ⟨b, hb, e1, e2, e3⟩ := paired_get pr hi
  have hil : i < es.size := by
    have := (List.getElem?_eq_some_iff.mp hb).1
    rw [← Array.length_toList]; omega
  have en : es[i] = entryOfKey (tupleKind (mixKind X.prog X.w)) b := by
    have h1 : es.toList[i]? = some (entryOfKey (tupleKind (mixKind X.prog X.w)) b) := by rw [he, List.getElem?_map, hb]; rfl
    rw [Array.getElem?_toList, Array.getElem?_eq_getElem hil] at h1
    exact Option.some.inj h1
  exact ⟨hil, b.2.1, by rw [en]; rfl, e2, by rw [en]; exact e3⟩
end

section
variable {prog : Program} {w : World} {A : Around} {E : Value → Shared → Prop} {s : Shared} {T : String} {r d : Addr} {n : Nat} {Pv : Nat → Value → Prop} {OK : Heap → Prop}
theorem src_collect {R : List Value → Shared → Prop} (S : KdlSrc prog w T r d n Pv OK) (hh : A.handled = none) (hok : OK s.heap) (hn : n ≤ sizeLine)
    (h : ∀ (h' : Heap) (tk : Nat) (acc : Array Value), (∀ b o, s.heap.get? b = some o → h'.get? b = some o) → s.heap.objs.size < h'.objs.size → ItemsOf Pv acc n → R acc.toList { s with heap := h', toks := tk }) : wpAny (model prog w) A (collect (.ref r)) R E s := by
  have lt := S.there _ hok
  unfold collect
  refine wpAny_bind (wpAny_runValue (codeAny_builtin entry_proto_collect' ?_))
  rw [Around.under_plainId PySem.F.plain_proto_collect _]
  show wpAny _ A.in1 (newList [] >>= fun l => again (.builtin "list.__iadd__" ⟨[l, .ref r], []⟩)) _ _ s
  refine wpAny_bind (wpAny_newObj_type ?_)
  refine wpAny_pure ⟨plainId_quiet PySem.F.plain_list_iadd _, codeAny_builtin entry_list_iadd' ?_⟩
  rw [Around.under_plainId PySem.F.plain_list_iadd _]
  have hl : (s.heap.push { cls := .type "list", data := .seq ([] : List Value).toArray }).get? s.heap.objs.size = some { cls := .type "list", data := .seq #[] } := Heap.get?_push_size _ rfl
  show wpAny _ A.in1 (Builtin.List.listExtendWith (.ref s.heap.objs.size) (.ref r) (.ref s.heap.objs.size)) _ _ _
  have key := kdl_extend (A := A) (s := { s with heap := s.heap.push { cls := .type "list", data := .seq ([] : List Value).toArray } }) S
    (R := fun (q : Result) (s' : Shared) => ∃ (h' : Heap) (tk : Nat) (acc : Array Value) (c' : Nat), q = .ok (.ret (.ref s.heap.objs.size)) ∧ s' = { s with heap := h', toks := tk } ∧
      (∀ b o, s.heap.get? b = some o → h'.get? b = some o) ∧ h'.get? s.heap.objs.size = some { cls := .type "list", dict := none, data := .seq acc c', slots := #[] } ∧ ItemsOf Pv acc n)
    hh (S.keep _ _ hok fun b _ o e => Heap.get?_push_of_some _ e) s.heap.objs.size (Nat.ne_of_gt lt.1) (Nat.ne_of_gt lt.2) (.ref s.heap.objs.size) 0 hl
    (fun h' tk acc c' hk hS' hacc => ⟨h', tk, acc, c', rfl, rfl, fun b o e => hk b o (Nat.ne_of_lt (Heap.lt_size e)) (Heap.get?_push_of_some _ e), hS', hacc⟩) hn
  refine wpAny_mono key (fun fin s' x => ?_) fun e s' x => ?_
  · have tail : ∀ {q : Result} {s' : Shared}, (∃ (h' : Heap) (tk : Nat) (acc : Array Value) (c' : Nat), q = .ok (.ret (.ref s.heap.objs.size)) ∧ s' = { s with heap := h', toks := tk } ∧
      (∀ b o, s.heap.get? b = some o → h'.get? b = some o) ∧ h'.get? s.heap.objs.size = some { cls := .type "list", dict := none, data := .seq acc c', slots := #[] } ∧ ItemsOf Pv acc n) → ∃ h' tk acc c', q = .ok (.ret (.ref s.heap.objs.size)) ∧ s' = { s with heap := h', toks := tk } ∧
        h'.get? s.heap.objs.size = some { cls := .type "list", dict := none, data := .seq acc c', slots := #[] } ∧ R acc.toList { s with heap := h', toks := tk } := fun ⟨h', tk, acc, c', e1, e2, hk, hS', hacc⟩ => ⟨h', tk, acc, c', e1, e2, hS', h h' tk acc hk (Heap.lt_size hS') hacc⟩
    cases fin with
    | done f =>
      obtain ⟨h', tk, acc, c', e, rfl, hS', hR⟩ := tail x
      cases e
      show wpAny _ A (load s.heap.objs.size >>= _) _ _ _
      exact wpAny_bind (wpAny_load hS' (wpAny_pure hR))
    | again c₁ =>
      refine ⟨x.1, codeAny_mono x.2 fun q s₂ y => ?_⟩
      obtain ⟨h', tk, acc, c', e, rfl, hS', hR⟩ := tail y
      cases e
      show wpAny _ A (load s.heap.objs.size >>= _) _ _ _
      exact wpAny_bind (wpAny_load hS' (wpAny_pure hR))
  · obtain ⟨_, _, _, _, e', _⟩ := x
    cases e'
/-- sorted(..) of such a source: tuples that are alike as far as they are equal -/
theorem src_sorted {β : Type} {bs : List β} {enc : β → PyData} {Rv : Value → β → Prop} {Q : Value → Shared → Prop} (S : KdlSrc prog w T r d n Pv OK) (hh : A.handled = none) (hok : OK s.heap) (hn : n ≤ sizeLine) (ht : TupsTo (bs.map enc)) (hl : bs.length = n)
    (hu : ∀ b, b ∈ bs → A.units + 2 + (enc b).depth < cLine) (he : ∀ (acc : Array Value), ItemsOf Pv acc n → EachIs Rv acc.toList bs) (hr : ∀ (v : Value) (b : β), Rv v b → b ∈ bs → ∃ as, Reads s.heap v (enc b) as)
    (h : ∀ (h' : Heap) (tk : Nat) (l : Addr) (out : List Value) (c : Nat), (∀ b o, s.heap.get? b = some o → h'.get? b = some o) → s.heap.objs.size ≤ l → h'.get? l = some (seqObj "list" out.toArray c) → out.length = bs.length → EachIs Rv out (bs.mergeSort (dataLe false enc)) → Q (.ref l) { s with heap := h', toks := tk }) :
    wpAny (model prog w) A (call (.builtin "sorted") [.ref r]) Q E s := by
  refine call_function_entry_kw kind_sorted plain_sorted entry_sorted (args_sorted1 _) ?_
  unfold Builtin.«sorted»
  refine wpAny_bind (m := checkCount "sorted" 1 1 _) (wpAny_pure ?_)
  refine wpAny_bind (src_collect (A := A.in1) S hh hok hn fun h₁ tk acc hk hlt hacc => ?_)
  have ee := he acc hacc
  have hlen : acc.toList.length = bs.length := ee.length
  have hz : acc.toList.length ≤ sizeLine := by omega
  refine wpAny_bind (wpAny_newList ?_ hz)
  have hat : (h₁.push (seqObj "list" acc.toList.toArray 0)).get? h₁.objs.size = some (seqObj "list" acc.toList.toArray 0) := Heap.get?_push_size _ rfl
  have hsz : s.heap.objs.size ≤ h₁.objs.size := Nat.le_of_lt hlt
  have keep : ∀ b o, s.heap.get? b = some o → b ≠ h₁.objs.size ∧ (h₁.push (seqObj "list" acc.toList.toArray 0)).get? b = some o := fun b o e =>
    ⟨Nat.ne_of_lt (Heap.lt_size (hk b o e)), Heap.get?_push_of_some _ (hk b o e)⟩
  have srt : ∀ b o, s.heap.get? b = some o → (sortingHeap (h₁.push (seqObj "list" acc.toList.toArray 0)) h₁.objs.size acc.toList).get? b = some o := fun b o e =>
    sortingHeap_old (keep b o e).1 (keep b o e).2
  refine wpAny_bind (wpAny_holding (wpAny_call_entry_kw slot_list_sort ⟨_, hat, rfl⟩ entry_list_sort ?body (args_list_sort _)))
  case body =>
    have em : EachIs (fun v b => ∃ as, Reads (sortingHeap (h₁.push (seqObj "list" acc.toList.toArray 0)) h₁.objs.size acc.toList) v (enc b) as) acc.toList bs := (each_mem ee).mono fun v b ⟨rv, hb⟩ => by
      obtain ⟨as, rr⟩ := hr v b rv hb
      exact ⟨as, PyProof.Rows.Reads.keeps srt rr⟩
    have em2 := each_map (R := fun v d => ∃ as, Reads (sortingHeap (h₁.push (seqObj "list" acc.toList.toArray 0)) h₁.objs.size acc.toList) v d as) enc em
    refine list_sort_vals (κ := dataKind (sortingHeap (h₁.push (seqObj "list" acc.toList.toArray 0)) h₁.objs.size acc.toList) (bs.map enc)) (s := { s with heap := h₁.push (seqObj "list" acc.toList.toArray 0), toks := tk }) hat
      (sortsAt_to (s := { s with heap := sortingHeap (h₁.push (seqObj "list" acc.toList.toArray 0)) h₁.objs.size acc.toList, toks := tk }) em2 ht (bound_map (A := A.in1.in1) hu)) hz ?_
    obtain ⟨c, hc⟩ := sortedHeap_at (vs := acc.toList) (out := (sortVals (dataKind (sortingHeap (h₁.push (seqObj "list" acc.toList.toArray 0)) h₁.objs.size acc.toList) (bs.map enc)) false acc.toList acc.toList).toArray) hat
    refine ⟨_, rfl, wpAny_pure ⟨_, rfl, h _ tk h₁.objs.size _ c (fun b o e => ?_) hsz hc ?_ ?_⟩⟩
    · rw [sortedHeap_old (keep b o e).1 (by
        have := Heap.lt_size (keep b o e).2
        exact this)]
      exact (keep b o e).2
    · rw [sortVals_length false rfl]; exact hlen
    · exact sortVals_each (κ := dataKind _ (bs.map enc)) (fun b => keyToks (enc b)) ee (each_of_map enc ((each_mem em2).mono fun _ _ ⟨⟨_, r⟩, hd⟩ => kind_some hd r))
end
end NF
namespace NF
open PySem L2 PySem.W PySem.Calls PyProof.Rows PySem.SeqAt

def keyT (k : List Key) : D := .tup (k.map keyD)
def wKeys (f : List D → D) (ok : List D → Prop) (wd : WE) : WE := fun Γ M Φ => wd Γ M fun x M1 => ∃ kvs, DicOf M1 x kvs ∧ ok (kvs.map fun p => keyT p.1) ∧ Φ (f (kvs.map fun p => keyT p.1)) M1
theorem rep_keys {K : PySem.W.Frag} {P : Hp} : ∀ (k : List Key), RepAll K P (k.map kV) (k.map keyD)
  | [] => .nil
  | .inl i :: k => .cons (.int i) (rep_keys k)
  | .inr x :: k => .cons (.str x) (rep_keys k)
section
variable {X : Cx} {pins : List (Addr × Obj)} {σ : L2.St} {H : Hp} {s : Shared}
/-- the keys' own tuples -/
theorem keys_each {K : PySem.W.Frag} {P : Hp} {M : Mp} {kvs : List (List Key × D)} {vs : List (List Key × V)} {es : Array DictEntry} (sa : Sat K P M H) (hk : KRep K P vs kvs) (hsz : es.size = vs.length)
    (ent : ∀ (i : Nat) (k : List Key) (v : V), vs[i]? = some (k, v) → ∃ (hi : i < es.size) (q : Addr), es[i].key = .ref q ∧ H q = some (.tup (k.map kV)) ∧ RelV v es[i].val) :
    ∃ P', Grow K P M H P' M H ∧ ∀ (acc : Array Value), ItemsOf (fun i v => ∃ hi : i < es.size, v = es[i].key) acc es.size → EachIs (fun u d => ∃ x, RelV x u ∧ Rep K P' x d) acc.toList (kvs.map fun p => keyT p.1) := by
  have hl := hk.length
  let as : List Addr := es.toList.filterMap fun e => match e.key with | .ref q => some q | _ => none
  have has : ∀ a, a ∈ as → ∃ xs, H a = some (.tup xs) := fun a ha => by
    obtain ⟨e, he, e2⟩ := List.mem_filterMap.mp ha
    obtain ⟨i, hi, rfl⟩ := List.getElem_of_mem he
    have hi' : i < vs.length := by rw [← hsz]; simpa using hi
    obtain ⟨_, q, e3, e4, _⟩ := ent i vs[i].1 vs[i].2 (List.getElem?_eq_getElem hi')
    simp only [Array.getElem_toList, e3] at e2
    cases e2
    exact ⟨_, e4⟩
  obtain ⟨g, gt⟩ := Grow.tups sa as has
  refine ⟨_, g, fun acc hacc => ?_⟩
  have build : ∀ (us : List Value) (ds : List D), us.length = ds.length → (∀ (i : Nat) u d, us[i]? = some u → ds[i]? = some d → ∃ x, RelV x u ∧ Rep K (tups P H as) x d) → EachIs (fun u d => ∃ x, RelV x u ∧ Rep K (tups P H as) x d) us ds := by
    intro us
    induction us with
    | nil =>
      intro ds h _
      cases ds with
      | nil => exact .nil
      | cons _ _ => simp at h
    | cons u us ih =>
      intro ds h k
      cases ds with
      | nil => simp at h
      | cons d ds => exact .cons (k 0 u d rfl rfl) (ih ds (by simpa using h) fun i u' d' h1 h2 => k (i + 1) u' d' (by simpa using h1) (by simpa using h2))
  refine build _ _ (by rw [Array.length_toList, List.length_map, hacc.1, hsz, hl]) fun i u d hu hd => ?_
  rw [List.getElem?_map] at hd
  obtain ⟨⟨k, d0⟩, hk1, rfl⟩ := Option.map_eq_some_iff.mp hd
  have hi : i < vs.length := by
    have := (List.getElem?_eq_some_iff.mp hk1).1
    omega
  obtain ⟨hie, rfl⟩ := hacc.2 i u (by rw [← Array.getElem?_toList]; exact hu)
  have e0 : vs[i].1 = k := by
    have : ∀ {l1 : List (List Key × V)} {l2 : List (List Key × D)}, KRep K P l1 l2 → ∀ (i : Nat) p q, l1[i]? = some p → l2[i]? = some q → p.1 = q.1 := by
      intro l1 l2 h
      induction h with
      | nil => intro i p q h1; simp at h1
      | cons r t ih =>
        intro i p q h1 h2
        cases i with
        | zero => simp at h1 h2; subst h1 h2; exact r.1
        | succ i => exact ih i p q (by simpa using h1) (by simpa using h2)
    exact this hk i _ _ (List.getElem?_eq_getElem hi) hk1
  obtain ⟨_, q, e3, e4, _⟩ := ent i vs[i].1 vs[i].2 (List.getElem?_eq_getElem hi)
  rw [e0] at e4
  have mq : q ∈ as := List.mem_filterMap.mpr ⟨es[i], by simp, by rw [e3]⟩
  refine ⟨.ref q, by rw [e3]; rfl, .tup (gt q _ mq e4) (rep_keys k)⟩
end
section
variable {X : Cx} {o : Expr} {wd : WE} {apos cpos p pos : Pos}
/-- the view d.keys(), then what is wanted of it -/
theorem keys_view {pins : List (Addr × Obj)} {σ : L2.St} {H : Hp} {s : Shared} {td : TE} {Q : Value → Shared → Prop} {R : V → Hp → Prop} (ho : PE X o td) (I : Inv X pins σ H s) (h : td σ H R)
    (k : ∀ (u : V) (H1 : Hp) (s1 : Shared), Inv X pins σ H1 s1 → R u H1 → ∃ a vs, u = .ref a ∧ Rd H1 a (.dT vs) ∧ ∀ es ep, (a == sysModules) = false → s1.heap.DictRaw a es ep → es.size = vs.length → vs.length ≤ sizeLine →
      (∀ (i : Nat) (k : List Key) (v : V), vs[i]? = some (k, v) → ∃ (hi : i < es.size) (q : Addr), es[i].key = .ref q ∧ H1 q = some (.tup (k.map kV)) ∧ RelV v es[i].val) →
      Q (.ref s1.heap.objs.size) { s1 with heap := s1.heap.push { cls := .type "dict_keys", data := .fields #[.ref a] } })
    (hbase : attributeBase o "keys" X.env (eval o X.env) = eval o X.env := by rfl) (hline : (apos.endLine == cpos.line) = true := by rfl) : wpAny (model X.prog X.w) X.A (eval (.Call (.Attribute o "keys" apos) [] [] cpos) X.env) Q X.xe s := by
  refine wpAny_Call_method (T := "dict") (id := "dict.keys") hbase rfl hline F.plainAttrs_dict F.slot_dict_keys F.type_dict_keys (thn (ho.run pins s σ H _ I h) fun u s1 ⟨x, H1, I1, rx, q⟩ => ?_)
  obtain ⟨a, vs, rfl, hd, kk⟩ := k x H1 s1 I1 q
  obtain rfl : u = Value.ref a := rx
  obtain ⟨hz, hs, es, ep, raw, hsz, ent⟩ := dt_raw I1 hd
  obtain ⟨od, hod, hx, hdt⟩ := id raw
  refine ⟨raw.typeIs, fun c e => ?_, ?_⟩
  · cases e
    exact ⟨od, hod, hx.2.1⟩
  show wpAny _ _ (callWith cpos (.builtin "dict.keys") [.ref a] [] []) _ X.xe s1
  exact method_meetsIn F.slot_dict_keys F.entry_dict_keys rfl (PySem.evalArgs_none ⟨rfl, raw.typeIs, F.args_dict_keys_1 _, _, meets_dict_keys_raw a hs, ⟨⟨es, ep, raw⟩, kk es ep hs raw hsz hz ent⟩⟩)
theorem d_listKeys {k : Nat} (hm : X.mg "list" = none) (hr : Room k X.A) (ho : PD X o wd) (hc : X.calm = true := by rfl) (hg : Gl X "list" := by rfl) (hbase : attributeBase o "keys" X.env (eval o X.env) = eval o X.env := by rfl) (hline : (apos.endLine == cpos.line) = true := by rfl)
    (na : starEach [.Call (.Attribute o "keys" apos) [] [] cpos] X.env = (false, eval (.Call (.Attribute o "keys" apos) [] [] cpos) X.env) :: starEach [] X.env := by rfl) : PD X (.Call (.Name "list" p) [.Call (.Attribute o "keys" apos) [] [] cpos] [] pos) (wKeys D.lst (fun _ => True) wd) := by
  refine ⟨fun pins s σ H Q I ⟨Γ, M, P, Φ, sl, sa, h, q⟩ => ?_⟩
  refine Call_ (ld_blt I hg hm (u := .type "list") (by decide +kernel) ?_)
  refine PyProof.Rows.callWith_type1 (PyProof.Rows.args_cons (keys_view ho I (R := fun v H1 => ∃ d M1 P1, (∃ kvs, DicOf M1 d kvs ∧ True ∧ Φ (.lst (kvs.map fun p => keyT p.1)) M1) ∧ Grow X.K P M H P1 M1 H1 ∧ Rep X.K P1 v d) ⟨Γ, M, P, _, sl, sa, h, fun d M1 h1 v P1 H1 g r => ⟨d, M1, P1, h1, g, r⟩⟩ (fun u H1 s1 I1 ⟨d, M1, P1, ⟨kvs, n, _, h1⟩, g, r⟩ => ?_) hbase hline) na) na rfl
  obtain ⟨a, vs, rfl, hd, hk⟩ := n.rd g.sat r
  refine ⟨a, vs, rfl, hd, fun es ep hs raw hsz hz ent => PyProof.Rows.args_nil ?_⟩
  obtain ⟨P2, g2, each⟩ := keys_each g.sat hk hsz ent
  have I2 : Inv X pins σ H1 { s1 with heap := s1.heap.push { cls := .type "dict_keys", data := .fields #[.ref a] } } := I1.kept (t' := s1.toks) fun b ob q => Heap.get?_push_of_some _ q
  refine kdl_call (KdlSrc.rawKeys (r := s1.heap.objs.size) (d := a) (es := es) (ep := ep)) (I.ok.hd hc) ⟨⟨_, Heap.get?_push_size _ rfl, rfl, rfl⟩, raw.at fun o e => Heap.get?_push_of_some _ e⟩ (by omega) fun h' tk acc c hkeep hget hitems => ?_
  obtain ⟨zs, hv, hz2⟩ := vals_of_each (each acc hitems)
  have fr : H1 (s1.heap.push { cls := .type "dict_keys", data := .fields #[.ref a] }).objs.size = none := I2.hok.fresh (Nat.le_refl _)
  have hl2 : zs.length ≤ sizeLine := by
    have h1 := hz2.length
    have h2 := hk.length
    rw [List.length_map] at h1
    omega
  have g3 := Grow.laid (o := .lst zs) g2.sat fr
  refine ⟨.ref _, _, I2.laid (o := .lst zs) (t' := tk) hkeep (Nat.le_refl _) ⟨hl2, acc.toList, c, hv, by rw [Array.toArray_toList]; exact hget⟩, rfl, q _ _ h1 _ _ _ ((g.trans g2).trans g3) (.lst upd_same (hz2.up g3.le))⟩
theorem d_sortedKeys {k : Nat} (hm : X.mg "sorted" = none) (hr : Room k X.A) (ho : PD X o wd) (hc : X.calm = true := by rfl) (hg : Gl X "sorted" := by rfl) (hbase : attributeBase o "keys" X.env (eval o X.env) = eval o X.env := by rfl) (hline : (apos.endLine == cpos.line) = true := by rfl)
    (na : starEach [.Call (.Attribute o "keys" apos) [] [] cpos] X.env = (false, eval (.Call (.Attribute o "keys" apos) [] [] cpos) X.env) :: starEach [] X.env := by rfl) : PD X (.Call (.Name "sorted" p) [.Call (.Attribute o "keys" apos) [] [] cpos] [] pos) (wKeys (fun l => .lst (l.mergeSort dle)) SortOk wd) := by
  refine ⟨fun pins s σ H Q I ⟨Γ, M, P, Φ, sl, sa, h, q⟩ => ?_⟩
  refine Call_ (ld_blt I hg hm (u := .builtin "sorted") (by decide +kernel) ?_)
  refine PyProof.Rows.callWith_builtin1 (PyProof.Rows.args_cons (keys_view ho I (R := fun v H1 => ∃ d M1 P1, (∃ kvs, DicOf M1 d kvs ∧ SortOk (kvs.map fun p => keyT p.1) ∧ Φ (.lst ((kvs.map fun p => keyT p.1).mergeSort dle)) M1) ∧ Grow X.K P M H P1 M1 H1 ∧ Rep X.K P1 v d) ⟨Γ, M, P, _, sl, sa, h, fun d M1 h1 v P1 H1 g r => ⟨d, M1, P1, h1, g, r⟩⟩ (fun u H1 s1 I1 ⟨d, M1, P1, ⟨kvs, n, so, h1⟩, g, r⟩ => ?_) hbase hline) na) na rfl
  obtain ⟨a, vs, rfl, hd, hk⟩ := n.rd g.sat r
  refine ⟨a, vs, rfl, hd, fun es ep hs raw hsz hz ent => PyProof.Rows.args_nil ?_⟩
  obtain ⟨P2, g2, each⟩ := keys_each g.sat hk hsz ent
  have I2 : Inv X pins σ H1 { s1 with heap := s1.heap.push { cls := .type "dict_keys", data := .fields #[.ref a] } } := I1.kept (t' := s1.toks) fun b ob q => Heap.get?_push_of_some _ q
  have hdep : ∀ d, d ∈ (kvs.map fun p => keyT p.1) → X.A.units + 2 + (D.py d).depth < cLine := fun d hd => by
    have h1 := (so.plain d hd).2
    have h2 := D.depth_py d
    have h3 := hr.un
    omega
  refine src_sorted (bs := kvs.map fun p => keyT p.1) (enc := D.py) (Rv := fun u d => ∃ x, RelV x u ∧ Rep X.K P2 x d) (KdlSrc.rawKeys (r := s1.heap.objs.size) (d := a) (es := es) (ep := ep)) (I.ok.hd hc) ⟨⟨_, Heap.get?_push_size _ rfl, rfl, rfl⟩, raw.at fun o e => Heap.get?_push_of_some _ e⟩ (by omega) so.to
    (by rw [List.length_map, hsz, hk.length]) hdep each (fun v d ⟨x, rx, rd⟩ hd => Dp.reads I2 _ x v (dp_up g2.sat.sub _ _ (D.rep_py d x (so.plain d hd).1 rd)) rx) fun h' tk l out c hkeep hle hget hlen eo => ?_
  obtain ⟨zs, hv, hz2⟩ := vals_of_each eo
  have fr : H1 l = none := I2.hok.fresh hle
  have hl2 : zs.length ≤ sizeLine := by
    have h1 := hz2.length
    have h2 := hk.length
    rw [List.length_mergeSort, List.length_map] at h1
    omega
  have g3 := Grow.laid (o := .lst zs) g2.sat fr
  refine ⟨.ref _, _, I2.laid (o := .lst zs) (t' := tk) hkeep hle ⟨hl2, out, c, hv, hget⟩, rfl, q _ _ h1 _ _ _ ((g.trans g2).trans g3) (.lst upd_same (hz2.up g3.le))⟩
end
end NF
namespace NF
open PySem L2 PySem.W PySem.Calls PyProof.Rows PySem.SeqAt

/-- the values of the locked dict with tuple keys at d -/
def ItvT (d : Addr) (o : Obj) (vs : List (List Key × V)) : It :=
  ⟨fun i H => H d = some (.frz o (.dT vs)) ∧ i < vs.length, fun i H x H' => H' = H ∧ ∃ k, vs[i]? = some (k, x), fun i H => H d = some (.frz o (.dT vs)) ∧ vs.length ≤ i⟩
theorem frz_raw {X : Cx} {pins : List (Addr × Obj)} {σ : L2.St} {H : Hp} {s : Shared} {d : Addr} {o : Obj} {vs : List (List Key × V)} {es : Array DictEntry} {ep : Nat} (I : L2.Inv X pins σ H s) (h : H d = some (.frz o (.dT vs))) (ho : o.data = .dict es ep) :
    s.heap.DictRaw d es ep ∧ es.size = vs.length ∧ ∀ (i : Nat) (k : List Key) (v : V), vs[i]? = some (k, v) → ∃ (hi : i < es.size), RelV v es[i].val := by
  have hd : s.heap.get? d = some o := (I.hok d _ h).1
  obtain ⟨_, _, es', ep', raw, hsz, ent⟩ := dt_raw I (.inr ⟨o, h⟩)
  obtain ⟨o', ho', hx, hdt⟩ := id raw
  rw [hd] at ho'
  cases ho'
  rw [ho] at hdt
  cases hdt
  exact ⟨raw, hsz, fun i k v e => let ⟨hi, _, _, _, r⟩ := ent i k v e; ⟨hi, r⟩⟩
theorem turn_valsT {P : Program} {w : World} {K : PySem.W.Frag} {tg : Expr} {d : Addr} {o : Obj} {es : Array DictEntry} {ep : Nat} {vs : List (List Key × V)} (it : Addr) (hod : o.data = .dict es ep) : Turn P w K tg (ItvT d o vs) [it] it (fun i h => h.IsValIter it d i es.size ep) where
  mem := by simp
  obj := fun i h st b hb => by
    have e : b = it := by simpa using hb
    subst e
    obtain ⟨oi, e, c, dd⟩ := st
    exact ⟨oi, e, fun v z => by rw [dd] at z; cases z⟩
  keep := fun i h h' st k => st.at fun oi e => k it (by simp) oi e
  item := by
    intro X hP hw hK hc i pins s σ H E I hf st hg
    subst hP hw hK
    obtain ⟨hd, hi⟩ := hg
    obtain ⟨f0, f1, f2, f3, f4, f5⟩ := hf it (by simp)
    obtain ⟨raw, hsz, ent⟩ := frz_raw I hd hod
    have hkv : vs[i]? = some (vs[i].1, vs[i].2) := List.getElem?_eq_getElem hi
    obtain ⟨hie, ru⟩ := ent i _ _ hkv
    refine wpAny_pyNext_values_item_raw st raw hie fun h' st' sb => ?_
    have I1 : L2.Inv X pins σ H { s with heap := h' } := I.turned (t' := s.toks) (fun b ob hb e => (sb.2 b hb).trans e) f0 f1 f3 f4 f5
    obtain ⟨oi, e, c, dd⟩ := id st'
    exact ⟨_, rfl, go_of (s := { s with heap := h' }) e c dd (by decide) ⟨vs[i].2, H, I1, ru, ⟨rfl, _, hkv⟩, st', fun b hb => (hf b hb).1⟩⟩
  done := by
    intro X hP hw hK hc i pins s σ H E I hf st hg
    subst hP hw hK
    obtain ⟨hd, hi⟩ := hg
    obtain ⟨f0, f1, f2, f3, f4, f5⟩ := hf it (by simp)
    obtain ⟨raw, hsz, ent⟩ := frz_raw I hd hod
    exact wpAny_pyNext_values_end_raw (I.ok.hd hc) st raw (by omega) fun h' eb => ⟨rfl, I.turned (t' := s.toks) (fun b ob hb e => eb b ob hb e) f0 f1 f3 f4 f5⟩
  self := fun A i s Q E st h => wpAny_pyIter_valiter st h
/-- a dict of the pure part is locked -/
theorem Grow.lock {K : PySem.W.Frag} {P H : Hp} {M : Mp} {a : Addr} {ob : Obj} {vs : List (List Key × V)} (s : Sat K P M H) (hp : P a = some (.dT vs)) (hh : H a = some (.dT vs)) : Grow K P M H (upd P a (.frz ob (.dT vs))) M (upd H a (.frz ob (.dT vs))) := by
  have le : Le P (upd P a (.frz ob (.dT vs))) := fun b o h => by
    by_cases e : b = a
    · subst e; rw [hp] at h; cases h; exact .inr ⟨ob, vs, rfl, upd_same⟩
    · exact .inl (by rw [upd_ne e]; exact h)
  have cd : Codes H (upd H a (.frz ob (.dT vs))) := fun c q z => by
    have e : c ≠ a := fun e => by rw [e, hh] at z; unfold LamX.CodeO at z; cases z
    rw [upd_ne e]; exact z
  refine ⟨le, ⟨fun b o h => ?_, s.nd, fun b m hm => ?_⟩, fun b o h n => ?_, fun b o h => ?_, fun b h => .inl h⟩
  · by_cases e : b = a
    · subst e; rw [upd_same] at h ⊢; exact .inl h
    · rw [upd_ne e] at h ⊢; exact s.sub b o h
  · obtain ⟨h1, h2⟩ := s.ob b m hm
    have e : b ≠ a := fun e => by rw [e, hp] at h1; cases h1
    exact ⟨by rw [upd_ne e]; exact h1, h2.up le (upd_ne e) cd⟩
  · by_cases e : b = a
    · subst e; rw [hh] at h; cases h; exact .inr ⟨ob, vs, rfl, upd_same⟩
    · exact .inl (by rw [upd_ne e]; exact h)
  · by_cases e : b = a
    · subst e; exact .inl ⟨_, hp⟩
    · rw [upd_ne e] at h; exact .inl ⟨o, h⟩
def wVals (we : WE) : WI := fun Γ M Ψ => we Γ M fun d M1 => ∃ ks ds, d = .dic ks ds ∧ ks.length = ds.length ∧ Ψ ds (fun _ => True) M1
section
variable {X : Cx} {tg e : Expr} {we : WE} {apos cpos : Pos}
theorem vals_itd {K : PySem.W.Frag} {P : Hp} {a : Addr} {ob : Obj} {ks : List (List Key)} {us : List V} {ds : List D} (hp : P a = some (.frz ob (.dT (ks.zip us)))) (hl : ks.length = us.length) (r : RepAll K P us ds) : ItD K P ds (fun _ => True) (ItvT a ob (ks.zip us)) := by
  have hz : (ks.zip us).length = ds.length := by rw [List.length_zip, hl, Nat.min_self, r.length]
  refine ⟨fun i d P' M' H' le sa _ hd => ?_, fun P' M' H' le sa _ => ?_⟩
  · have h1 : H' a = some (.frz ob (.dT (ks.zip us))) := by
      rcases le.trans sa.sub a _ hp with z | ⟨_, _, e, _⟩
      · exact z
      · cases e
    refine ⟨⟨h1, by rw [hz]; exact (List.getElem?_eq_some_iff.mp hd).1⟩, fun x H'' ⟨e, k, hx⟩ => ⟨P', by rw [e]; exact Grow.refl sa, ?_⟩⟩
    obtain ⟨v, hv, rv⟩ := (r.up le).get hd
    have : us[i]? = some x := by
      rw [List.getElem?_zip_eq_some] at hx
      exact hx.2
    rw [hv] at this
    cases this
    exact rv
  · have h1 : H' a = some (.frz ob (.dT (ks.zip us))) := by
      rcases le.trans sa.sub a _ hp with z | ⟨_, _, e, _⟩
      · exact z
      · cases e
    exact ⟨h1, by rw [hz]; exact Nat.le_refl _⟩
theorem di_values (he : PD X e we) (hbase : attributeBase e "values" X.env (eval e X.env) = eval e X.env := by rfl) (hline : (apos.endLine == cpos.line) = true := by rfl) : PID X tg (.Call (.Attribute e "values" apos) [] [] cpos) (wVals we) := by
  refine ⟨fun pins s σ H R I ⟨Γ, M, P, Ψ, sl, sa, h, q⟩ => ?_⟩
  refine wpAny_Call_method (T := "dict") (id := "dict.values") hbase rfl hline F.plainAttrs_dict F.slot_dict_values F.type_dict_values (thn (he.run pins s σ H (fun v H1 => ∃ d M1 P1, (∃ ks ds, d = .dic ks ds ∧ ks.length = ds.length ∧ Ψ ds (fun _ => True) M1) ∧ Grow X.K P M H P1 M1 H1 ∧ Rep X.K P1 v d) I
    ⟨Γ, M, P, _, sl, sa, h, fun d M1 h1 v P1 H1 g r => ⟨d, M1, P1, h1, g, r⟩⟩) fun u s1 ⟨x, H1, I1, rx, d, M1, P1, ⟨ks, ds, ed, hl, h1⟩, g, r⟩ => ?_)
  subst ed
  cases r with
  | @dic a _ us _ hp hlk hr =>
    obtain rfl : u = Value.ref a := rx
    -- locked, if it is not
    have lk : ∃ ob P2 H2, L2.Inv X pins σ H2 s1 ∧ Grow X.K P1 M1 H1 P2 M1 H2 ∧ P2 a = some (.frz ob (.dT (ks.zip us))) ∧ H2 a = some (.frz ob (.dT (ks.zip us))) := by
      rcases hp with hp | ⟨ob, hp⟩
      · rcases g.sat.sub a _ hp with hh | ⟨ob, _, e, hh⟩
        · obtain ⟨od, I2⟩ := I1.lock hh trivial
          exact ⟨od, _, _, I2, Grow.lock g.sat hp hh, upd_same, upd_same⟩
        · cases e
          refine ⟨ob, upd P1 a (.frz ob (.dT (ks.zip us))), H1, I1, ?_, upd_same, hh⟩
          have le : Le P1 (upd P1 a (.frz ob (.dT (ks.zip us)))) := fun b o h => by
            by_cases e : b = a
            · subst e; rw [hp] at h; cases h; exact .inr ⟨ob, _, rfl, upd_same⟩
            · exact .inl (by rw [upd_ne e]; exact h)
          refine ⟨le, ⟨fun b o h => ?_, g.sat.nd, fun b m hm => ?_⟩, fun b o h _ => .inl h, fun b o h => ?_, fun b h => .inl h⟩
          · by_cases e : b = a
            · subst e; rw [upd_same] at h; cases h; exact .inl hh
            · rw [upd_ne e] at h; exact g.sat.sub b o h
          · obtain ⟨q1, q2⟩ := g.sat.ob b m hm
            have e : b ≠ a := fun e => by rw [e, hp] at q1; cases q1
            exact ⟨by rw [upd_ne e]; exact q1, q2.up le rfl (Codes.refl _)⟩
          · by_cases e : b = a
            · subst e; exact .inl ⟨_, hp⟩
            · rw [upd_ne e] at h; exact .inl ⟨o, h⟩
      · rcases g.sat.sub a _ hp with hh | ⟨_, _, e, _⟩
        · exact ⟨ob, P1, H1, I1, Grow.refl g.sat, hp, hh⟩
        · cases e
    obtain ⟨ob, P2, H2, I2, g2, hp2, hh2⟩ := lk
    obtain ⟨_, hs, es, ep, raw, hsz, ent⟩ := dt_raw I2 (.inr ⟨ob, hh2⟩)
    obtain ⟨od, hod, hx, hdt⟩ := id raw
    have eo : od = ob := Option.some.inj (hod.symm.trans (I2.hok a _ hh2).1)
    subst eo
    refine ⟨raw.typeIs, fun c e => ?_, ?_⟩
    · cases e
      exact ⟨od, hod, hx.2.1⟩
    have I3 : L2.Inv X pins σ H2 { s1 with heap := s1.heap.push { cls := .type "dict_values", data := .fields #[.ref a] } } := I2.kept (t' := s1.toks) fun b ob q => Heap.get?_push_of_some _ q
    have fin : wpAny (model X.prog X.w) X.A (pyIter (.ref s1.heap.objs.size)) (PIE X pins σ tg R) X.xe { s1 with heap := s1.heap.push { cls := .type "dict_values", data := .fields #[.ref a] } } := by
      refine wpAny_pyIter_values_raw (d := a) (es := es) (ep := ep) ⟨_, Heap.get?_push_size _ rfl, rfl, rfl⟩ (raw.at fun o e => Heap.get?_push_of_some _ e) (pi_one (tk := s1.toks) I3 _ (turn_valsT (vs := ks.zip us) _ hdt) ⟨_, Heap.get?_push_size _ rfl, rfl, rfl⟩ ?_)
      exact q ds _ M1 h1 P2 H2 _ (g.trans g2) (vals_itd hp2 hlk (hr.up g2.le))
    show wpAny _ _ (callWith cpos (.builtin "dict.values") [.ref a] [] []) _ X.xe s1
    exact method_meetsIn F.slot_dict_values F.entry_dict_values rfl (PySem.evalArgs_none ⟨rfl, raw.typeIs, F.args_dict_values_1 _, _, meets_dict_values_raw a hs, ⟨⟨es, ep, raw⟩, fin⟩⟩)
end
end NF
namespace NF
open PySem L2 PySem.W PySem.Calls PyProof.Rows PySem.SeqAt

theorem lam_key {prog : Program} {w : World} {A : Around} {s : Shared} {K : PySem.W.Frag} {f c' C a dx : Addr} {qual x f1 f2 : Str} {params : Arguments} {scope : Scope} {cl : List (Str × Addr)} {pm ctv u1 u2 : Value} {mA : Str → Option Value} {p1 p2 p3 p4 p5 : Pos} {n5} {Q : Value → Shared → Prop} {E : Value → Shared → Prop}
    (hroom : A.depth < recursionLimit) (hf : s.heap.get? f = some (kla_obj "<lambda>" qual params (.Tuple [.Attribute (.Name x p1) f1 p2, .Attribute (.Name x p3) f2 p4] n5 p5) scope cl pm c' ctv)) (hcode : s.heap.CodeRec (.ref c') qual) (hlim : s.heap.NoLimit)
    (hbind : ∀ v : Value, bindArgs (kla_fn "<lambda>" qual params (.Tuple [.Attribute (.Name x p1) f1 p2, .Attribute (.Name x p3) f2 p4] n5 p5) scope cl pm (.ref c') ctv) ⟨[v], []⟩ = pure [(x, v)])
    (hco : scope.isCoroutine = false) (hgen : scope.isGenerator = false) (hkind : scope.kind = .function) (hcell : ∀ y ∈ scope.names, y.2 ≠ .cell) (hloc : scope.names.lookup x = some .local) (hx : (x == ("__debug__" : Str)) = false)
    (KX : K.In s.heap) (O : ObjM s.heap a dx C mA) (hc : Cls K C) (n1 : NoAttr K C f1) (n2 : NoAttr K C f2) (h1 : mA f1 = some u1) (h2 : mA f2 = some u2) (d1 : handedIn u1 = true) (d2 : handedIn u2 = true)
    (h : ∀ (h' : Heap) (tk : Nat) (t : Addr), (∀ b o, s.heap.get? b = some o → h'.get? b = some o) → h'.get? t = some { cls := .type "tuple", data := .seq #[u1, u2] } → Q (.ref t) { s with heap := h', toks := tk })
    (hb1 : ∀ env, attributeBase (.Name x p1) f1 env (eval (.Name x p1) env) = eval (.Name x p1) env) (hb2 : ∀ env, attributeBase (.Name x p3) f2 env (eval (.Name x p3) env) = eval (.Name x p3) env)
    (hs : ∀ env, starEach [.Attribute (.Name x p1) f1 p2, .Attribute (.Name x p3) f2 p4] env = [(false, eval (.Attribute (.Name x p1) f1 p2) env), (false, eval (.Attribute (.Name x p3) f2 p4) env)]) :
    wpAny (model prog w) A (call (.ref f) [.ref a]) Q E s := by
  refine wpAny_call (kla_callFunE hroom hf rfl hco hgen rfl hcode ?_)
  rw [hbind]
  refine wpAny_pure (wpAny_newFunctionEnv hcell (fun y hy => ?_) (fun h₁ hns hsb => ⟨hlim.fresh _ hsb, ?_⟩) hkind)
  · have e : y = (x, Value.ref a) := by simpa using hy
    subst e
    exact hloc
  have kp : ∀ b o, s.heap.get? b = some o → h₁.get? b = some o := fun b o e => hsb.extBut b o (Nat.ne_of_lt (Heap.lt_size e)) (Heap.get?_push_of_some _ e)
  refine kla_codeExpr ?_
  have hv : (fun y => ([(x, Value.ref a)] : List (Str × Value)).reverse.lookup y) x = some (.ref a) := by
    show List.lookup x [(x, Value.ref a)] = _
    simp
  have fld : ∀ {g : Str} {u : Value} {p p' : Pos} {tk : Nat} {B : Around} {E' : Value → Shared → Prop} {R : Value → Shared → Prop} {env : Env}, env.scope = scope → env.locals = s.heap.objs.size → NoAttr K C g → mA g = some u → handedIn u = true →
      (∀ env, attributeBase (.Name x p) g env (eval (.Name x p) env) = eval (.Name x p) env) → (∀ tk', R u { s with heap := h₁, toks := tk' }) → wpAny (model prog w) B (eval (.Attribute (.Name x p) g p') env) R E' { s with heap := h₁, toks := tk } := by
    intro g u p p' tk B E' R env es el n hu hd hb hR
    refine attr_of (hb env) (wpAny_Name (wpAny_loadName_local (by rw [es]; exact hkind) (by show env.scope.names.lookup x = _; rw [es]; exact hloc) (by rw [el]; exact hns) hv ?_) hx)
    have O' : ObjM h₁ a dx C mA := ⟨kp _ _ O.obj, let ⟨o, es, ep, ho, r⟩ := O.ns; ⟨o, es, ep, kp _ _ ho, r⟩, O.ne⟩
    exact get_map (s := { s with heap := h₁, toks := tk }) (KX.keeps kp) O' (hc.pg) hc.hd n hu hd (hR _)
  refine wpAny_Tuple_spliced ?_
  rw [hs]
  refine spliced_cons (fld rfl rfl n1 h1 d1 hb1 fun tk1 => spliced_cons (fld rfl rfl n2 h2 d2 hb2 fun tk2 => spliced_nil ⟨by show 2 ≤ sizeLine; decide, ?_⟩))
  exact h _ _ _ (fun b o e => Heap.get?_push_of_some _ (kp b o e)) (Heap.get?_push_size _ rfl)

section
variable {X : Cx} {pins : List (Addr × Obj)} {σ : L2.St} {H : Hp} {s : Shared}
theorem lam_made {c Pt : Addr} {q : Str} {params : Arguments} {body : Expr} {scope : Scope} {pos : Pos} {E : Value → Shared → Prop} {Q : Value → Shared → Prop} (I : L2.Inv X pins σ H s) (TB : LamX.TabB X.base X.mg c Pt) (hcode : X.env.code = .ref c) (hq : X.env.qual ++ "<lambda>" = q) (hT : LamX.TabS H Pt q)
    (hdef : defaultsOf params X.env = ([], [])) (hfree : ∀ y ∈ scope.names, y.2 = .free → ∃ c, X.env.cells.lookup y.1 = some c)
    (h : ∀ (f c' : Addr) (pm ctv : Value) (H1 : Hp) (s' : Shared), L2.Inv X pins σ H1 s' → s'.heap.get? f = some (kla_obj "<lambda>" q params body scope (cloFrom X.env.cells scope.names []) pm c' ctv) → s'.heap.CodeRec (.ref c') q →
      (H1 = H ∨ ∃ ps, H1 = upd (upd H Pt (.tbl ps)) c' (LamX.CodeO c' q) ∧ H c' = none) → LamX.TabS H1 Pt q → Q (.ref f) s') : wpAny (model X.prog X.w) X.A (eval (.Lambda params body scope pos) X.env) Q E s := by
  subst hq
  obtain ⟨ps, hP, ht, ha⟩ := id hT
  refine kla_eval hdef ?_
  have b0 : s.heap.BuiltinsAt X.mg Pt := TB.bm.keeps I.bk
  have t0 : s.heap.get? Pt = some { cls := .none, data := .fields ps } := I.hok Pt _ hP
  cases hc : codeAmong pos ps.toList with
  | some cv =>
    obtain ⟨c', e, hco⟩ := ha pos cv hc
    subst e
    refine kla_makeFunctionHit (P := Pt) (c := c) (closure_ok hfree) I.ok.glob (I.mod.glob.keeps I.bk) hcode (TB.code.keeps I.bk) t0 ht hc b0 fun ctv h' tk hx hsz => ?_
    have I1 := I.kept (t' := tk) (h' := h'.push (kla_obj "<lambda>" (X.env.qual ++ "<lambda>") params body scope (cloFrom X.env.cells scope.names []) ((X.mg "__name__").getD .none) c' ctv)) fun b o e => Heap.get?_push_of_some _ (hx b o e)
    refine h h'.objs.size c' _ ctv H _ I1 (Heap.get?_push_size _ rfl) ?_ (.inl rfl) hT
    obtain ⟨⟨oc, vs, t, g1, g2, g3⟩, _, _⟩ := I1.hok c' _ hco
    exact ⟨c', oc, vs, t, rfl, g1, g2, g3⟩
  | none =>
    refine kla_makeFunction (P := Pt) (c := c) (closure_ok hfree) I.ok.glob (I.mod.glob.keeps I.bk) hcode (TB.code.keeps I.bk) t0 ht hc TB.gP b0 fun c' ctv h' tk hx hge hlt hrec htb => ?_
    obtain ⟨c2, oc, vs, t, e2, g1, g2, g3⟩ := id hrec
    cases e2
    have nC : H c' = none := I.hok.fresh hge
    have I1 := LamX.inv_table (q := X.env.qual ++ "<lambda>") (t' := tk) (more := #[rawInt pos.line, rawInt pos.col, .ref c']) (h' := h'.push (kla_obj "<lambda>" (X.env.qual ++ "<lambda>") params body scope (cloFrom X.env.cells scope.names []) ((X.mg "__name__").getD .none) c' ctv)) I hP
      (fun b o hb e => Heap.get?_push_of_some _ (hx b o hb e)) (Heap.get?_push_of_some _ htb) hge ⟨oc, vs, t, Heap.get?_push_of_some _ g1, g2, g3⟩
    refine h h'.objs.size c' _ ctv _ _ I1 (Heap.get?_push_size _ rfl) ⟨c', oc, vs, t, rfl, Heap.get?_push_of_some _ g1, g2, g3⟩ (.inr ⟨_, rfl, nC⟩) ?_
    have el : (ps ++ #[rawInt pos.line, rawInt pos.col, .ref c']).toList = ps.toList ++ [rawInt pos.line, rawInt pos.col, .ref c'] := by simp
    refine ⟨_, by rw [upd_ne (ne_of_none hP nC)]; exact upd_same, by rw [el]; exact TriplesOk_snoc _ _ _ _ ht, fun p' cv hcv => ?_⟩
    rw [el] at hcv
    rcases LamX.among_app _ ht hcv with z | z
    · obtain ⟨c0, e1, e2⟩ := ha p' cv z
      refine ⟨c0, e1, ?_⟩
      rw [upd_ne (ne_of_none e2 nC), upd_ne (fun y => by rw [y, hP] at e2; unfold LamX.CodeO at e2; cases e2)]
      exact e2
    · exact ⟨c', z, upd_same⟩
end
/-- the table is written, a code object is new -/
theorem Grow.coded {K : PySem.W.Frag} {P H : Hp} {M : Mp} {Pt c' : Addr} {q : Str} {ps : Array Value} (s : Sat K P M H) (hm : (Pt, MO.tab q) ∈ M) (hc : H c' = none) (hT : LamX.TabS (upd (upd H Pt (.tbl ps)) c' (LamX.CodeO c' q)) Pt q) : Grow K P M H P M (upd (upd H Pt (.tbl ps)) c' (LamX.CodeO c' q)) := by
  obtain ⟨pP, okT⟩ := s.ob _ _ hm
  obtain ⟨ps0, hP, _⟩ := id okT
  have nP : ∀ b u, H b = some u → b ≠ c' := fun b u e => ne_of_none e hc
  refine ⟨Le.refl P, ⟨fun b o h => ?_, s.nd, fun b m hb => ?_⟩, fun b o h n => .inl ?_, fun b o h => .inl ⟨o, h⟩, fun b h => .inl h⟩
  · have e1 : b ≠ Pt := fun e => by rw [e, pP] at h; cases h
    have e2 : b ≠ c' := fun e => by rw [e, s.sub.free hc] at h; cases h
    rw [upd_ne e2, upd_ne e1]
    exact s.sub b o h
  · obtain ⟨h1, h2⟩ := s.ob b m hb
    refine ⟨h1, ?_⟩
    by_cases e : b = Pt
    · subst e
      have em : m = MO.tab q := by
        have : ∀ {l : Mp} {m1 m2 : MO}, (dom l).Nodup → (b, m1) ∈ l → (b, m2) ∈ l → m1 = m2 := by
          intro l
          induction l with
          | nil => intro m1 m2 _ h; cases h
          | cons p l ih =>
            intro m1 m2 nd h1 h2
            have nd' := List.nodup_cons.mp nd
            rcases List.mem_cons.mp h1 with e1 | e1
            · rcases List.mem_cons.mp h2 with e2 | e2
              · rw [← e1] at e2; exact (Prod.mk.inj e2).2.symm
              · exact absurd (List.mem_map.mpr ⟨_, e2, by rw [← e1]⟩) nd'.1
            · rcases List.mem_cons.mp h2 with e2 | e2
              · exact absurd (List.mem_map.mpr ⟨_, e1, by rw [← e2]⟩) nd'.1
              · exact ih nd'.2 e1 e2
        exact this s.nd hb hm
      subst em
      exact hT
    · obtain ⟨u, hu⟩ := h2.isAt
      refine h2.up (Le.refl P) (by rw [upd_ne (nP b u hu), upd_ne e]) fun c p z => ?_
      rw [upd_ne (ne_of_none z hc), upd_ne (fun y => by rw [y, hP] at z; unfold LamX.CodeO at z; cases z)]
      exact z
  · have e1 : b ≠ Pt := fun e => n (by rw [e]; exact List.mem_map.mpr ⟨_, hm, rfl⟩)
    rw [upd_ne (ne_of_none h hc), upd_ne e1]
    exact h

def LamOk (C : Addr) (f1 f2 : Str) (kf : D → PyData) (ds : List D) : Prop := ∀ r, r ∈ ds → ∃ ns es x i j, r = .rcd C ns es ∧ (ns.zip es).lookup f1 = some (.str x) ∧ (ns.zip es).lookup f2 = some (.tup [.int i, .int j]) ∧ kf r = .tuple [.str x, .tuple [.int i, .int j]]
def wSortLam (Pt : Addr) (q : Str) (C : Addr) (f1 f2 : Str) (we : WE) : WE := fun Γ M Φ => we Γ M fun d M1 => ∃ ds kf, Now M1 d (.lst ds) ∧ (Pt, MO.tab q) ∈ M1 ∧ LamOk C f1 f2 kf ds ∧ Φ (.lst (ds.mergeSort (dataLe false kf))) M1
section
variable {X : Cx} {we : WE} {e : Expr} {p pos lpos kpos p1 p2 p3 p4 p5 : Pos}
theorem d_sortedLam {c Pt C : Addr} {q f1 f2 x : Str} {params : Arguments} {scope : Scope} {n5} {k : Nat} (TB : LamX.TabB X.base X.mg c Pt) (hc : Cls X.K C) (n1 : NoAttr X.K C f1) (n2 : NoAttr X.K C f2) (hm : X.mg "sorted" = none) (hr : Room k X.A) (ha : PD X e we)
    (hcode : X.env.code = .ref c := by rfl) (hq : X.env.qual ++ "<lambda>" = q := by rfl) (hg : Gl X "sorted" := by rfl) (hdef : defaultsOf params X.env = ([], []) := by rfl) (hnames : scope.names = [(x, .local)] := by rfl)
    (hbind : ∀ (pm ctv cv v : Value) (cl : List (Str × Addr)), bindArgs (kla_fn "<lambda>" q params (.Tuple [.Attribute (.Name x p1) f1 p2, .Attribute (.Name x p3) f2 p4] n5 p5) scope cl pm cv ctv) ⟨[v], []⟩ = pure [(x, v)] := by intros; rfl)
    (hco : scope.isCoroutine = false := by rfl) (hgen : scope.isGenerator = false := by rfl) (hkind : scope.kind = .function := by rfl) (hx : (x == ("__debug__" : Str)) = false := by decide)
    (hb1 : ∀ env, attributeBase (.Name x p1) f1 env (eval (.Name x p1) env) = eval (.Name x p1) env := by intros; rfl) (hb2 : ∀ env, attributeBase (.Name x p3) f2 env (eval (.Name x p3) env) = eval (.Name x p3) env := by intros; rfl)
    (hs : ∀ env, starEach [.Attribute (.Name x p1) f1 p2, .Attribute (.Name x p3) f2 p4] env = [(false, eval (.Attribute (.Name x p1) f1 p2) env), (false, eval (.Attribute (.Name x p3) f2 p4) env)] := by intros; rfl)
    (he : backTo pos (starEach [e] X.env) = (false, eval e X.env) :: backTo pos (starEach [] X.env) := by rfl) (hse : starEach [e] X.env = (false, eval e X.env) :: starEach [] X.env := by rfl) :
    PD X (.Call (.Name "sorted" p) [e] [⟨some "key", .Lambda params (.Tuple [.Attribute (.Name x p1) f1 p2, .Attribute (.Name x p3) f2 p4] n5 p5) scope lpos, kpos⟩] pos) (wSortLam Pt q C f1 f2 we) := by
  refine ⟨fun pins s σ H Q I ⟨Γ, M, P, Φ, sl, sa, h, qq⟩ => ?_⟩
  refine wpAny_Call_Name_kw (ld_blt I hg hm (u := .builtin "sorted") (by decide +kernel) ?_)
  refine PyProof.Rows.callWith_kw (thn ((pa_cons ha pa_nil hse).run pos pins s σ H (fun vs H1 => ∃ d M1 P1 v, vs = [v] ∧ (∃ ds kf, Now M1 d (.lst ds) ∧ (Pt, MO.tab q) ∈ M1 ∧ LamOk C f1 f2 kf ds ∧ Φ (.lst (ds.mergeSort (dataLe false kf))) M1) ∧ Grow X.K P M H P1 M1 H1 ∧ Rep X.K P1 v d) I
    ⟨Γ, M, P, _, sl, sa, h, fun d M1 h1 v P1 H1 g r => ⟨d, M1, P1, v, rfl, h1, g, r⟩⟩) fun us s1 ⟨vs, H1, I1, r1, d, M1, P1, v, ev, ⟨ds, kf, nw, hmem, lo, h1⟩, g, r⟩ => ?_) he (by rw [he]; rfl) rfl rfl
  subst ev
  obtain ⟨la, ws, rfl, hla, hws⟩ := nw.sqL g.sat r
  rw [Vals.ref1 r1]
  obtain ⟨_, okT⟩ := g.sat.ob _ _ hmem
  show wpAny _ _ (evalAll [do let v ← eval (.Lambda params (.Tuple [.Attribute (.Name x p1) f1 p2, .Attribute (.Name x p3) f2 p4] n5 p5) scope lpos) X.env; standAt pos; pure v]) _ _ s1
  refine wpAny_evalAll_cons (wpAny_bind (lam_made I1 TB hcode hq okT hdef (fun y hy e => ?_) fun f c' pm ctv H2 s2 I2 hf hcr hH hT2 => wpAny_bind (wpAny_standAt (wpAny_pure (wpAny_evalAll_nil ?_)))))
  · rw [hnames] at hy
    have : y = (x, NameKind.local) := by simpa using hy
    rw [this] at e
    cases e
  have g2 : Grow X.K P1 M1 H1 P1 M1 H2 := by
    rcases hH with e | ⟨ps, e, hn⟩
    · rw [e]; exact Grow.refl g.sat
    · subst e; exact Grow.coded g.sat hmem hn hT2
  show wpAny (model X.prog X.w) X.A (call (.builtin "sorted") [.ref la] [(Str.ofString "key", .ref f)]) (EP X pins σ Q) X.xe s2
  have hla2 : H2 la = some (.lst ws) := by
    obtain ⟨la', ws', e1, e2, e3⟩ := nw.sqL g2.sat (r.up g2.le)
    cases e1
    rcases hH with e | ⟨ps, e, hn⟩
    · rw [e]; exact hla
    · subst e
      obtain ⟨ps0, hP, _⟩ := id okT
      rw [upd_ne (ne_of_none hla hn), upd_ne (fun y => by rw [y, hP] at hla; cases hla)]
      exact hla
  obtain ⟨its, rv, pl, hz⟩ := I2.list (SqL.of hla2)
  have hlen := hws.length
  have ee := each_of_vals rv hws
  have hal : AllAlike (ds.map kf) := by
    intro d1 m1 d2 m2
    obtain ⟨r1, mr1, rfl⟩ := List.mem_map.mp m1
    obtain ⟨r2, mr2, rfl⟩ := List.mem_map.mp m2
    obtain ⟨_, _, _, _, _, _, _, _, k1⟩ := lo r1 mr1
    obtain ⟨_, _, _, _, _, _, _, _, k2⟩ := lo r2 mr2
    rw [k1, k2]
    simp [alike, alikeAll]
  have hsr : Sortable (ds.map kf) := .inl fun d1 m1 => by
    obtain ⟨r1, mr1, rfl⟩ := List.mem_map.mp m1
    obtain ⟨_, _, _, _, _, _, _, _, k1⟩ := lo r1 mr1
    exact ⟨_, _, k1⟩
  refine sorted_key_data (R := fun u d => ∃ x, RelV x u ∧ Rep X.K P1 x d) (bs := ds) (b := false) kf pl.isList ee hal hsr (by omega) (fun r mr => ?_) (ksk_s1 _ _) (fun _ => ksk_l1 _ _) (fun _ => ksk_t1 _ _) (fun v r ⟨z, rz, rr⟩ mr hh tk keep => ?_) fun out cc h' tk keep hfresh hget hlen2 eo => ?_
  · obtain ⟨_, _, _, _, _, _, _, _, k1⟩ := lo r mr
    rw [k1]
    have := hr.un
    simp [PyData.depth, PyData.depthAll]
    omega
  · obtain ⟨ns, es, sx, i, j, e0, l1, l2, k1⟩ := lo r mr
    subst e0
    rw [k1]
    have rr2 := rr.up g2.sat.sub
    cases rr2 with
    | @rcd a _ dx _ vs2 _ hins hl2 hall =>
      obtain rfl : v = Value.ref a := rz
      have hok2 : HOk X.prog X.w H2 hh := I2.hok.kept keep
      obtain ⟨mA, O, rel, _⟩ := ins_get hok2 hins
      have fr := frep_zip hl2 hall
      obtain ⟨v1, e1, t1⟩ := fr.look l1
      obtain ⟨v2, e2, t2⟩ := fr.look l2
      have q1 := rel f1
      have q2 := rel f2
      rw [e1] at q1
      rw [e2] at q2
      obtain ⟨u1, m1, s1'⟩ := q1.some_of
      obtain ⟨u2, m2, s2'⟩ := q2.some_of
      cases t1
      obtain ⟨tk1, rfl⟩ := s1'
      cases t2 with
      | @tup b vs3 _ ht hal3 =>
        obtain rfl : u2 = Value.ref b := s2'
        have hv3 := RepAll.ints (ns := [i, j]) hal3
        subst hv3
        obtain ⟨_, its3, rv3, o3, ho3, hc3, n3, hd3⟩ := hok2 b _ ht
        obtain ⟨w1, w2, rfl, ⟨k3, rfl⟩, ⟨k4, rfl⟩⟩ := vals2 rv3
        refine lam_key (K := X.K) (s := { s2 with heap := hh, toks := tk }) hr.depth (keep _ _ hf) ?_ (I2.nolimit.keeps keep) (hbind pm ctv (.ref c') · _) hco hgen hkind (fun y hy => ?_) (by rw [hnames]; simp) hx (I2.kIn.keeps keep) O hc n1 n2 m1 m2 rfl rfl (fun h' tk' t kp ht' => ?_) hb1 hb2 hs
        · obtain ⟨c2, oc, vs4, t4, e4, g1, g2', g3⟩ := hcr
          cases e4
          exact ⟨c', oc, vs4, t4, rfl, keep _ _ g1, g2', g3⟩
        · rw [hnames] at hy
          have : y = (x, NameKind.local) := by simpa using hy
          rw [this]
          intro z; cases z
        · refine ⟨h', tk', rfl, kp, ?_⟩
          refine Reads.tuple ht' rfl rfl (as := []) ?_
          exact ReadsAll.cons (as := []) (Reads.str sx tk1) (ReadsAll.cons (as := []) (Reads.tuple (kp _ _ ho3) hc3 hd3 (as := []) (ReadsAll.cons (as := []) (Reads.int i k3) (ReadsAll.cons (as := []) (Reads.int j k4) .nil))) .nil)
  · obtain ⟨zs, hv, hz2⟩ := vals_of_each eo
    have fr : H2 (s2.heap.objs.size + 1) = none := I2.hok.fresh (Nat.le_succ _)
    have hl2 : zs.length ≤ sizeLine := by
      have := hz2.length
      rw [List.length_mergeSort] at this
      omega
    have g3 := Grow.laid (o := .lst zs) g2.sat fr
    exact ⟨.ref _, _, I2.laid (o := .lst zs) (t' := tk) keep (Nat.le_succ _) ⟨hl2, out, cc, hv, hget⟩, rfl, qq _ _ h1 _ _ _ ((g.trans g2).trans g3) (.lst upd_same (hz2.up g3.le))⟩
end
end NF
namespace NF
open PySem L2 PySem.Spec PyProof.Rows

section
variable {P : Program} {w : World}
/-- of no class statement, n levels down -/
def NoCls (P : Program) (w : World) (n : Nat) (s : Shared) (v : Value) : Prop := ∀ (A : Around) (E : Value → Shared → Prop) (Q : Bool → Shared → Prop), Q false s → wpAny (model P w) A (ofAClassStatement n v) Q E s
/-- whether its hash is by its value is told, n levels down -/
def HashTold (P : Program) (w : World) (n : Nat) (s : Shared) (v : Value) : Prop := ∀ (A : Around) (E : Value → Shared → Prop) (Q : Bool → Shared → Prop), (∀ r, Q r s) → wpAny (model P w) A (hashByValue n v) Q E s
theorem NoCls.tuple {n m : Nat} {s : Shared} {b : Addr} {o : Obj} {vs : Array Value} (ho : s.heap.get? b = some o) (hc : o.cls = .type "tuple") (hd : o.data = .seq vs m) (hi : ∀ v, v ∈ vs.toList → NoCls P w n s v) : NoCls P w (n + 1) s (.ref b) := fun A E Q hq => by
  have isT : s.TypeIs (.ref b) "tuple" := ⟨o, ho, hc⟩
  unfold ofAClassStatement
  refine wpAny_bind (wpAny_typeOf isT ?_)
  dsimp only
  have tt : (("tuple" : String) == "tuple") = true := by decide
  simp only [tt, if_true, Bool.not_true, Bool.false_eq_true, if_false]
  try refine wpAny_bind (wpAny_pure ?_)
  try simp only [Bool.not_true, Bool.false_eq_true, if_false]
  refine wpAny_bind (wpAny_seqItems ho hd ?_)
  dsimp only
  refine wpAny_bind ?_
  rw [← Array.forIn_toList]
  refine wpAny_forIn_list _ (fun rest r s' => r.1 = none ∧ s' = s ∧ ∀ v, v ∈ rest → NoCls P w n s v) _ ?_ ?_ _ _ ⟨rfl, rfl, hi⟩
  · rintro v rest r s' ⟨_, rfl, all⟩
    refine wpAny_bind (all v (List.mem_cons_self ..) _ _ _ ?_)
    simp only [Bool.false_eq_true, if_false]
    exact wpAny_pure ⟨rfl, rfl, fun u m => all u (List.mem_cons_of_mem _ m)⟩
  · rintro ⟨r1, r2⟩ s' ⟨h1, rfl, _⟩
    simp only at h1
    subst h1
    exact wpAny_pure hq
theorem HashTold.tuple {n m : Nat} {s : Shared} {b : Addr} {o : Obj} {vs : Array Value} (ho : s.heap.get? b = some o) (hc : o.cls = .type "tuple") (hd : o.data = .seq vs m) (hi : ∀ v, v ∈ vs.toList → HashTold P w n s v) : HashTold P w (n + 1) s (.ref b) := fun A E Q hq => by
  have isT : s.TypeIs (.ref b) "tuple" := ⟨o, ho, hc⟩
  unfold hashByValue
  refine wpAny_bind (wpAny_specialOf isT F.slot_tuple_hash.lookup ?_)
  refine wpAny_bind (wpAny_seqItems ho hd ?_)
  refine wpAny_bind ?_
  show wpAny _ _ (forIn vs _ _) _ _ s
  rw [← Array.forIn_toList]
  refine wpAny_forIn_list _ (fun rest r s' => r.1 = none ∧ s' = s ∧ ∀ v, v ∈ rest → HashTold P w n s v) _ ?_ ?_ _ _ ⟨rfl, rfl, hi⟩
  · rintro v rest r s' ⟨_, rfl, all⟩
    refine wpAny_bind (all v (List.mem_cons_self ..) _ _ _ fun told => ?_)
    cases told with
    | true =>
      simp only [Bool.not_true, Bool.false_eq_true, if_false]
      exact wpAny_pure ⟨rfl, rfl, fun u m => all u (List.mem_cons_of_mem _ m)⟩
    | false =>
      simp only [Bool.not_false, if_true]
      exact wpAny_pure (wpAny_pure (hq false))
  · rintro ⟨r1, r2⟩ s' ⟨h1, rfl, _⟩
    simp only at h1
    subst h1
    exact wpAny_pure (hq true)
mutual
theorem noCls_key : ∀ (k : NestedKey) (v : Value) (n : Nat) (s : Shared), NestedIs s.heap k v → k.depth ≤ n → NoCls P w n s v
  | .none, _, n, s, x, _ => by cases x; intro A E Q h; cases n <;> exact wpAny_pure h
  | .num i, _, n, s, x, _ => by cases x <;> (intro A E Q h; cases n <;> exact wpAny_pure h)
  | .text y, _, n, s, x, _ => by cases x; intro A E Q h; cases n <;> exact wpAny_pure h
  | .tup ks, _, n, s, x, hn => by
    cases x with
    | tup hg hc hd hk =>
      simp only [NestedKey.depth] at hn
      cases n with
      | zero => omega
      | succ n => exact NoCls.tuple hg hc hd (noCls_keys ks _ n s hk (by omega))
theorem noCls_keys : ∀ (ks : List NestedKey) (vs : List Value) (n : Nat) (s : Shared), NestedAll s.heap ks vs → NestedKey.depthAll ks ≤ n → ∀ v, v ∈ vs → NoCls P w n s v
  | [], _, n, s, x, _, v, hv => by cases x; cases hv
  | k :: ks, _, n, s, x, hn, v, hv => by
    cases x with
    | cons x1 x2 =>
      simp only [NestedKey.depthAll] at hn
      rcases List.mem_cons.mp hv with e | hv
      · rw [e]; exact noCls_key k _ n s x1 (by omega)
      · exact noCls_keys ks _ n s x2 (by omega) v hv
end
mutual
theorem hashTold_key : ∀ (k : NestedKey) (v : Value) (n : Nat) (s : Shared), NestedIs s.heap k v → k.depth ≤ n → HashTold P w n s v
  | .none, _, n, s, x, _ => by cases x; intro A E Q h; cases n <;> exact wpAny_pure (h _)
  | .num i, _, n, s, x, _ => by cases x <;> (intro A E Q h; cases n <;> exact wpAny_pure (h _))
  | .text y, _, n, s, x, _ => by cases x; intro A E Q h; cases n <;> exact wpAny_pure (h _)
  | .tup ks, _, n, s, x, hn => by
    cases x with
    | tup hg hc hd hk =>
      simp only [NestedKey.depth] at hn
      cases n with
      | zero => omega
      | succ n => exact HashTold.tuple hg hc hd (hashTold_keys ks _ n s hk (by omega))
theorem hashTold_keys : ∀ (ks : List NestedKey) (vs : List Value) (n : Nat) (s : Shared), NestedAll s.heap ks vs → NestedKey.depthAll ks ≤ n → ∀ v, v ∈ vs → HashTold P w n s v
  | [], _, n, s, x, _, v, hv => by cases x; cases hv
  | k :: ks, _, n, s, x, hn, v, hv => by
    cases x with
    | cons x1 x2 =>
      simp only [NestedKey.depthAll] at hn
      rcases List.mem_cons.mp hv with e | hv
      · rw [e]; exact hashTold_key k _ n s x1 (by omega)
      · exact hashTold_keys ks _ n s x2 (by omega) v hv
end
end

abbrev NKey := Addr × NestedKey
def NIs (h : Heap) (p : NKey) : Prop := NestedIs h p.2 (.ref p.1) ∧ p.2.depth ≤ 8
def hOf (w : World) (p : NKey) : Int × Value := (p.2.hash w, .ref p.1)
theorem NIs.still {h h' : Heap} {p : NKey} (x : NIs h p) (k : ∀ b o vs n, h.get? b = some o → o.data = .seq vs n → h'.get? b = some o) : NIs h' p := ⟨NestedIs.at k _ _ x.1, x.2⟩
theorem NIs.kept {h h' : Heap} {p : NKey} (x : NIs h p) (k : ∀ b o, h.get? b = some o → h'.get? b = some o) : NIs h' p := x.still fun b o _ _ e _ => k b o e
theorem NIs.beside {h h' : Heap} {p : NKey} {a : Addr} {o : Obj} {es : Array (Int × Value)} {ep : Nat} {t : SetTable} (x : NIs h p) (ho : h.get? a = some o) (hd : o.data = .set es ep t) (hs : Heap.SameBut a h h') : NIs h' p :=
  x.still fun b ob vs n hb hq => (hs.2 b fun e => by
    subst e
    rw [ho] at hb
    cases hb
    rw [hd] at hq
    cases hq).trans hb
/-- at a stands a set that holds just the keys of L -/
structure NSet (w : World) (h : Heap) (a : Addr) (L : List NKey) (es : Array (Int × Value)) (ep : Nat) (t : SetTable) : Prop where
  ob : ∃ o, h.get? a = some o ∧ o.ExactSet ∧ o.data = .set es ep t
  rows : es.toList = L.map (hOf w)
  tab : TabOk t (L.map fun p => p.2.hash w)
  nd : (L.map (·.2)).Nodup
  keys : ∀ p, p ∈ L → NIs h p
  room : L.length * 5 < t.mask * 3
  few : L.length < 64
  led : w.params.followText "set-order" = true ∨ t.led = true
section
variable {P : Program} {w : World} {A : Around} {E : Value → Shared → Prop} {s : Shared} {a : Addr} {L : List NKey} {es : Array (Int × Value)} {ep : Nat} {t : SetTable}
theorem NSet.size {h : Heap} (R : NSet w h a L es ep t) : es.size = L.length := by
  rw [← Array.length_toList, R.rows, List.length_map]
theorem NSet.fits {h : Heap} (R : NSet w h a L es ep t) : t.fits es.size = true := by
  have q1 : t.place.size = L.length := by simpa using R.tab.sz
  have q2 := R.size
  have q3 := R.room
  unfold SetTable.fits SetTable.fill
  rw [R.tab.dm, Bool.and_eq_true, beq_iff_eq, decide_eq_true_eq]
  refine ⟨by omega, ?_⟩
  show t.place.size + 0 ≤ t.mask
  omega
theorem NSet.entry {h : Heap} (R : NSet w h a L es ep t) {i : Nat} {p : NKey} (e : L[i]? = some p) : es[i]? = some (p.2.hash w, Value.ref p.1) := by
  rw [← Array.getElem?_toList, R.rows, List.getElem?_map, e]
  rfl
theorem seen_not {x : NKey} {Q : Bool → Shared → Prop} (hx : NIs s.heap x) {ys : List Value} (hy : ∀ y, y ∈ ys → ∃ p, y = Value.ref p.1 ∧ NIs s.heap p) (hq : Q false s) : wpAny (model P w) A (searchCouldBeSeen (.ref x.1) ys) Q E s := by
  unfold searchCouldBeSeen
  refine wpAny_bind ?_
  refine wpAny_forIn_list _ (fun rest r s' => r.1 = none ∧ s' = s ∧ ∀ y, y ∈ rest → ∃ p, y = Value.ref p.1 ∧ NIs s.heap p) _ ?_ ?_ _ _ ⟨rfl, rfl, hy⟩
  · rintro v rest r s' ⟨_, rfl, all⟩
    obtain ⟨p, rfl, hp⟩ := all v (List.mem_cons_self ..)
    have go : ∀ y, y ∈ rest → ∃ p, y = Value.ref p.1 ∧ NIs s'.heap p := fun u m => all u (List.mem_cons_of_mem _ m)
    dsimp only
    by_cases c : (x.1 == p.1 || (carriedByValue (.ref x.1) && carriedByValue (.ref p.1))) = true
    · exact wp_if_pos c (wpAny_pure ⟨rfl, rfl, go⟩)
    · refine wp_if_neg c (wpAny_bind (quiet_key _ _ 8 s' hx.1 hx.2 _ _ _ ?_))
      simp only [Bool.not_true, Bool.false_eq_true, if_false]
      refine wpAny_bind (quiet_key _ _ 8 s' hp.1 hp.2 _ _ _ ?_)
      simp only [Bool.not_true, Bool.false_eq_true, if_false]
      refine wpAny_bind (noCls_key _ _ 8 s' hx.1 hx.2 _ _ _ ?_)
      simp only [Bool.false_eq_true, if_false]
      refine wpAny_bind (noCls_key _ _ 8 s' hp.1 hp.2 _ _ _ ?_)
      simp only [Bool.false_eq_true, if_false]
      exact wpAny_pure ⟨rfl, rfl, go⟩
  · rintro ⟨r1, r2⟩ s' ⟨h1, rfl, _⟩
    simp only at h1
    subst h1
    exact wpAny_pure hq
/-- the c-th stand on the way of a hash -/
abbrev stand (m : Nat) (hh : Int) (c : Nat) : SetTable.Probe := nth m (runAt m (SetTable.bits hh % (m + 1)) (SetTable.bits hh)) c
theorem stand_add (m : Nat) (hh : Int) (c q : Nat) : nth m (stand m hh c) q = stand m hh (c + q) := (nth_add m c _ q).symm
theorem stand_j (m : Nat) (hh : Int) (c q : Nat) : (nth m (stand m hh c) q).j = way m hh (c + q) := congrArg SetTable.Probe.j (stand_add m hh c q)
theorem stand_clean (m : Nat) (hh : Int) (c : Nat) : (stand m hh c).dummy = none := by
  have go : ∀ (n : Nat) (p : SetTable.Probe), p.dummy = none → (nth m p n).dummy = none := by
    intro n
    induction n with
    | zero => exact fun p e => e
    | succ n ih => exact fun p e => ih (adv m p) (by unfold adv; split <;> exact e)
  exact go c _ rfl
theorem nset_seek (R : NSet w s.heap a L es ep t) {x : NKey} (hx : NIs s.heap x) (hu : A.units + 8 < cLine) {K : Nat} (hKf : K < 10 * SetTable.turns t.mask) (hK : way t.mask (x.2.hash w) K ∉ t.place.toList)
    (hKb : ∀ c, c < K → way t.mask (x.2.hash w) c ∈ t.place.toList) {Q : SetFound → Shared → Prop} (yes : x.2 ∈ L.map (·.2) → Q (.there none) s) (no : x.2 ∉ L.map (·.2) → Q (.free (way t.mask (x.2.hash w) K) false) s) :
    ∀ (f c : Nat) (st : Option SetTable.Probe), st.getD (t.probeStart (x.2.hash w)) = stand t.mask (x.2.hash w) c → c ≤ K → K - c < f →
      (∀ (i : Nat) p, L[i]? = some p → p.2 = x.2 → ∃ c', c ≤ c' ∧ c' < K ∧ t.place.toList[i]? = some (way t.mask (x.2.hash w) c')) → wpAny (model P w) A (setSearchFrom a (.ref x.1) (x.2.hash w) true f st) Q E s
  | 0, c, st, _, _, hf, _ => absurd hf (Nat.not_lt_zero _)
  | f + 1, c, st, hst, hc, hf, ahead => by
    obtain ⟨o, ho, hex, hd⟩ := R.ob
    generalize eh : x.2.hash w = hh at *
    rw [setSearchFrom_succ]
    refine wpAny_bind (wpAny_setState_of ho hd R.fits ?_)
    dsimp only
    have gw : ¬ t.gaveWay = true := by
      unfold SetTable.gaveWay
      rw [mask_odd R.tab.mok]
      decide
    refine wp_if_neg gw ?_
    try refine wpAny_bind (wpAny_pure ?_)
    have hashAt : ∀ (i : Nat) p, L[i]? = some p → (es[i]?.map (·.1)).getD 0 = p.2.hash w := fun i p hp => by
      rw [R.entry hp]
      rfl
    have fin : c + (K - c) = K := by omega
    rcases go_spec t R.tab.ris R.tab.dm (fun i => (es[i]?.map (·.1)).getD 0) hh (10 * SetTable.turns t.mask) (K - c) _ (stand_clean t.mask hh c) (by omega) (fun q hq => by rw [stand_j]; exact hKb (c + q) (by omega)) (by rw [stand_j, fin]; exact hK) with
      ⟨q, i, hq, hi, _, hno, hpr⟩ | ⟨hno, hpr⟩
    · have pr : t.probe (fun i => (es[i]?.map (·.1)).getD 0) hh (st.getD (t.probeStart hh)) = some (.candidate (way t.mask hh (c + q)) i (stand t.mask hh (c + (q + 1)))) := by
        rw [hst, ← stand_j, ← stand_add]
        exact hpr
      rw [pr]
      dsimp only
      rw [stand_j] at hi
      have hil : i < L.length := by
        have z1 := (List.getElem?_eq_some_iff.mp hi).1
        have z2 : t.place.size = L.length := by simpa using R.tab.sz
        rw [Array.length_toList] at z1
        omega
      obtain ⟨p, hp⟩ : ∃ p, L[i]? = some p := ⟨_, List.getElem?_eq_getElem hil⟩
      have mp : p ∈ L := List.mem_of_getElem? hp
      have kp := R.keys p mp
      have rest : wpAny (model P w) A (searchRest a (.ref x.1) hh true f es t (way t.mask hh (c + q)) i (stand t.mask hh (c + (q + 1)))) Q E s := by
        unfold searchRest
        rw [R.entry hp]
        dsimp only
        refine wpAny_bind (wpAny_holding ((nestedKind P w).eqBool hu kp hx ?_))
        refine wpAny_bind (wpAny_setState_of ho hd R.fits ?_)
        dsimp only
        by_cases same : p.2 = x.2
        · exact wp_if_pos (by simp [same]) (wpAny_pure (yes (List.mem_map.mpr ⟨p, mp, same⟩)))
        · refine wp_if_neg (by simp [same]) ?_
          try refine wpAny_bind (wpAny_pure ?_)
          rw [sameMem]
          dsimp only
          have live : t.slot (way t.mask hh (c + q)) = .live i := slot_live R.tab.ris hi
          simp only [if_true, live, R.entry hp]
          refine wpAny_bind (wpAny_isSame_ref_self (wpAny_bind (wpAny_pure ?_)))
          simp only [if_true]
          refine wp_if_neg (by simp [same]) ?_
          have := nset_seek R hx hu (K := K) (by rw [eh] at *; exact hKf) (by rw [eh]; exact hK) (by rw [eh]; exact hKb) (Q := Q) yes (by rw [eh]; exact no) f (c + (q + 1)) (some (stand t.mask hh (c + (q + 1)))) (by rw [eh]; rfl) (by omega) (by omega) fun i0 p0 h0 k0 => ?_
          · rw [eh] at this
            exact this
          · rw [eh]
            obtain ⟨c', a1, a2, a3⟩ := ahead i0 p0 h0 k0
            refine ⟨c', ?_, a2, a3⟩
            rcases Nat.lt_trichotomy c' (c + q) with z | z | z
            · exact absurd ((hashAt i0 p0 h0).trans (by rw [k0, eh])) (hno (c' - c) i0 (by omega) (by rw [stand_j, show c + (c' - c) = c' by omega]; exact a3))
            · exfalso
              rw [z] at a3
              have l0 := slot_live R.tab.ris a3
              rw [live] at l0
              injection l0 with l0
              rw [← l0, hp] at h0
              exact same ((congrArg Prod.snd (Option.some.inj h0)).trans k0)
            · omega
      by_cases hl : t.led = true
      · refine wp_if_neg (by simp [hl]) ?_
        try refine wpAny_bind (wpAny_pure ?_)
        exact rest
      · refine wp_if_pos (by simp [hl]) ?_
        refine wpAny_bind (seen_not hx (fun y hy => ?_) ?_)
        · obtain ⟨e, he, rfl⟩ := List.mem_map.mp hy
          have me : e ∈ es.toList := by
            have : e ∈ es ∧ e.1 = hh := by simpa using he
            simpa using this.1
          rw [R.rows] at me
          obtain ⟨p2, m2, rfl⟩ := List.mem_map.mp me
          exact ⟨p2, rfl, R.keys p2 m2⟩
        · refine wp_if_neg (by decide) ?_
          try refine wpAny_bind (wpAny_pure ?_)
          exact rest
    · have pr : t.probe (fun i => (es[i]?.map (·.1)).getD 0) hh (st.getD (t.probeStart hh)) = some (.empty (way t.mask hh K) none) := by
        have z : way t.mask hh K = (nth t.mask (stand t.mask hh c) (K - c)).j := by rw [stand_j, fin]
        rw [hst, z]
        exact hpr
      rw [pr]
      dsimp only
      refine wpAny_pure (no fun hm => ?_)
      obtain ⟨p0, m0, k0⟩ := List.mem_map.mp hm
      obtain ⟨i0, hi0, e0⟩ := List.getElem_of_mem m0
      have h0 : L[i0]? = some p0 := by rw [List.getElem?_eq_getElem hi0, e0]
      obtain ⟨c', a1, a2, a3⟩ := ahead i0 p0 h0 k0
      exact hno (c' - c) i0 (by omega) (by rw [stand_j, show c + (c' - c) = c' by omega]; exact a3) ((hashAt i0 p0 h0).trans (by rw [k0, eh]))
theorem nset_search (R : NSet w s.heap a L es ep t) {x : NKey} (hx : NIs s.heap x) (hu : A.units + 8 < cLine) {Q : SetFound → Shared → Prop} (yes : x.2 ∈ L.map (·.2) → Q (.there none) s)
    (no : ∀ K, x.2 ∉ L.map (·.2) → way t.mask (x.2.hash w) K ∉ t.place.toList → (∀ c, c < K → way t.mask (x.2.hash w) c ∈ t.place.toList) → Q (.free (way t.mask (x.2.hash w) K) false) s) : wpAny (model P w) A (setSearch a (.ref x.1) (x.2.hash w) true) Q E s := by
  have z1 := R.room
  obtain ⟨K, hKf, hK, hKb⟩ := R.tab.first (by simp; omega) (x.2.hash w)
  have z2 : K < 100000 := by
    have : 10 * SetTable.turns t.mask ≤ 1420 := by
      unfold SetTable.turns
      rcases R.tab.mok with e | e | e <;> omega
    omega
  unfold setSearch
  refine nset_seek R hx hu hKf hK hKb yes (fun n => no K n hK hKb) 100000 0 none rfl (Nat.zero_le _) (by omega) fun i p hp hk => ?_
  have hi : (L.map fun p => p.2.hash w)[i]? = some (x.2.hash w) := by rw [List.getElem?_map, hp, ← hk]; rfl
  have hil : i < t.place.toList.length := by
    have q1 := (List.getElem?_eq_some_iff.mp hp).1
    have q2 : t.place.size = L.length := by simpa using R.tab.sz
    simp
    omega
  have hj := List.getElem?_eq_getElem hil
  obtain ⟨c, hc, e⟩ := R.tab.before hK hi hj
  exact ⟨c, Nat.zero_le _, hc, by rw [hj, e]⟩
theorem picks_range {α : Type} (L : List α) : (List.range L.length).filterMap (fun i => L[i]?) = L := by
  have go : ∀ n, n ≤ L.length → (List.range n).filterMap (fun i => L[i]?) = L.take n := by
    intro n
    induction n with
    | zero => exact fun _ => rfl
    | succ n ih =>
      intro hn
      rw [List.range_succ, List.filterMap_append, ih (by omega), List.take_succ]
      congr 1
  rw [go _ (Nat.le_refl _), List.take_length]
theorem order_keys (order : Array Nat) (hr : es.toList = L.map (hOf w)) (hp : order.toList.Perm (List.range L.length)) :
    ∃ L2 : List NKey, (order.filterMap (es[·]?)).toList = L2.map (hOf w) ∧ L2.Perm L ∧ (L2.map fun p => p.2.hash w) = order.toList.map fun i => (es.map (·.1)).getD i 0 := by
  have ent : ∀ i, es[i]? = (L[i]?).map (hOf w) := fun i => by rw [← Array.getElem?_toList, hr, List.getElem?_map]
  have inn : ∀ i, i ∈ order.toList → i < L.length := fun i hi => List.mem_range.mp (hp.mem_iff.mp hi)
  refine ⟨order.toList.filterMap (fun i => L[i]?), ?_, ?_, ?_⟩
  · rw [Array.toList_filterMap, List.map_filterMap]
    congr 1
    funext i
    exact ent i
  · have q := hp.filterMap (fun i => L[i]?)
    rw [picks_range] at q
    exact q
  · generalize order.toList = l at inn
    clear hp
    induction l with
    | nil => rfl
    | cons i l ih =>
      have hi := inn i (List.mem_cons_self ..)
      rw [List.filterMap_cons_some (List.getElem?_eq_getElem hi), List.map_cons, List.map_cons, ih fun j hj => inn j (List.mem_cons_of_mem _ hj)]
      congr 1
      have q : (es.map (·.1))[i]? = some ((L[i]).2.hash w) := by
        rw [Array.getElem?_map, ent i, List.getElem?_eq_getElem hi]
        rfl
      simp [Array.getD_eq_getD_getElem?, q]
theorem nset_relay {o : Obj} (ho : s.heap.get? a = some o) (hex : o.ExactSet) (hd : o.data = .set es ep t) (rows : es.toList = L.map (hOf w)) (hsz : t.place.size = es.size) (hdm : t.dummies = #[]) (hfl : es.size ≤ t.mask) (nd : (L.map (·.2)).Nodup) (keys : ∀ p, p ∈ L → NIs s.heap p) (few : L.length < 64) (led : w.params.followText "set-order" = true ∨ t.led = true)
    {wanted M : Nat} (hw : SetTable.sizeAbove wanted - 1 = M) (hM : MaskOk M) (hw2 : SetTable.sizeAbove wanted ≤ 128) (hn : L.length * 5 < M * 3) {Q : Unit → Shared → Prop}
    (hQ : ∀ h' L' es' ep' t', Heap.SameBut a s.heap h' → NSet w h' a L' es' ep' t' → L'.Perm L → Q () { s with heap := h' }) : wpAny (model P w) A (setRelay a wanted) Q E s := by
  have len : es.size = L.length := by rw [← Array.length_toList, rows, List.length_map]
  have fit : t.fits es.size = true := by
    unfold SetTable.fits SetTable.fill
    rw [hdm, Bool.and_eq_true, beq_iff_eq, decide_eq_true_eq]
    exact ⟨hsz, by show t.place.size + 0 ≤ t.mask; omega⟩
  obtain ⟨t', order, e, hp, T, em, hld, _, _⟩ := relaid_ok t (hs := es.map (·.1)) (wanted := wanted) hw hM (by simp; omega)
  rw [Array.size_map, len] at hp
  obtain ⟨L2, r1, r2, r3⟩ := order_keys order rows hp
  rw [← r3] at T
  have len2 : (order.filterMap (es[·]?)).size = es.size := by
    rw [← Array.length_toList, r1, List.length_map, r2.length_eq, len]
  rw [setRelay_eq]
  refine wpAny_bind (wpAny_setState_of ho hd fit ?_)
  dsimp only
  refine wp_if_neg (by rw [sizeLine_eq]; omega) ?_
  try refine wpAny_bind (wpAny_pure ?_)
  rw [e]
  dsimp only
  refine wpAny_bind (wp_if_neg (by rw [len2]; simp) ?_)
  try refine wpAny_bind (wpAny_pure ?_)
  refine wpAny_pure ?_
  dsimp only
  refine wpAny_storeSet_of ho hd ?_ (by rw [len2, len, sizeLine_eq]; omega)
  have sb : Heap.SameBut a s.heap (s.heap.update a (Obj.putSet (order.filterMap (es[·]?)) t')) := Heap.SameBut.update ..
  refine hQ _ L2 _ (ep + 1) t' sb ⟨⟨_, store_at ho hd, ⟨hex.1, hex.2.1, hex.2.2⟩, rfl⟩, r1, T, (r2.map (·.2)).nodup_iff.mpr nd, fun p m => (keys p (r2.mem_iff.mp m)).beside ho hd sb, by rw [r2.length_eq, em]; exact hn, by rw [r2.length_eq]; exact few, led.imp id fun z => by rw [hld]; exact z⟩ r2
theorem tab_loud {hs : List Int} (T : TabOk t hs) (b : Bool) : TabOk (if b = true then t else { t with plain := false }) hs := by
  cases b with
  | true => exact T
  | false => exact ⟨T.ris, T.dm, T.sz, T.mok, T.bd, T.reach⟩
theorem nset_add (R : NSet w s.heap a L es ep t) {x : NKey} (hx : NIs s.heap x) (hu : A.units + 8 < cLine) (hfew : L.length + 1 < 64) {Q : Bool → Shared → Prop}
    (hQ : ∀ b h' L' es' ep' t', Heap.SameBut a s.heap h' → NSet w h' a L' es' ep' t' → (x.2 ∈ L.map (·.2) → L' = L) → (x.2 ∉ L.map (·.2) → L'.Perm (x :: L)) → Q b { s with heap := h' }) : wpAny (model P w) A (setAddHashed a (.ref x.1) (x.2.hash w)) Q E s := by
  obtain ⟨o, ho, hex, hd⟩ := R.ob
  have len := R.size
  have room := R.room
  unfold setAddHashed
  refine wpAny_holding ?_
  rw [show (100000 : Nat) = 99999 + 1 from rfl, setAddHashedIn_succ]
  refine wpAny_bind (wpAny_setState_of ho hd R.fits ?_)
  dsimp only
  refine wp_if_neg (by simp [byScan, Value.scannable]) ?_
  try refine wpAny_bind (wpAny_pure ?_)
  refine wpAny_bind (nset_search R hx hu (fun hm => ?_) fun K hm hK hb => ?_)
  · exact wpAny_pure (hQ false s.heap L es ep t (Heap.SameBut.refl a s.heap) R (fun _ => rfl) fun z => absurd hm z)
  · dsimp only
    refine wpAny_bind (wpAny_setState_of ho hd R.fits ?_)
    dsimp only
    obtain ⟨q1, q2, q3, q4, q5, _, _, _, q9⟩ := R.tab.put hK hb
    generalize hpt : t.put (way t.mask (x.2.hash w) K) = pt at q1 q3 q4 q5 q9 ⊢
    obtain ⟨t0, p⟩ := pt
    dsimp only at q1 q3 q4 q5 q9 ⊢
    subst q1
    generalize hpp : SetTable.below t.place (way t.mask (x.2.hash w) K) = p at q2 q3 ⊢
    have told : ∀ byv : Bool, wpAny (model P w) A (do
        let t := if byv then t0 else { t0 with plain := false }
        storeSet a (SetTable.insertAt es p (x.2.hash w, Value.ref x.1)) t
        if !false && t.tooFull then setRelay a (SetTable.grown (es.size + 1))
        return true) Q E s := by
      intro byv
      dsimp only
      have T1 := tab_loud q3 byv
      have m1 : (if byv = true then t0 else { t0 with plain := false }).mask = t.mask := by cases byv <;> exact q4
      have f1 : (if byv = true then t0 else { t0 with plain := false }).fill = L.length + 1 := by
        have q : t0.fill = L.length + 1 := by simpa using q9
        cases byv <;> exact q
      have d1 : (if byv = true then t0 else { t0 with plain := false }).dummies = #[] := T1.dm
      have l1 : w.params.followText "set-order" = true ∨ (if byv = true then t0 else { t0 with plain := false }).led = true := R.led.imp id fun z => by cases byv <;> exact q5.trans z
      generalize (if byv = true then t0 else { t0 with plain := false }) = t1 at T1 m1 f1 d1 l1 ⊢
      have rows1 : (SetTable.insertAt es p (x.2.hash w, Value.ref x.1)).toList = (L.take p ++ x :: L.drop p).map (hOf w) := by
        rw [SetTable.toList_insertAt, R.rows, List.map_append, List.map_cons, List.map_take, List.map_drop]
        rfl
      have pm := put_perm L p x
      have T2 : TabOk t1 ((L.take p ++ x :: L.drop p).map fun p => p.2.hash w) := by
        rw [List.map_append, List.map_cons, List.map_take, List.map_drop]
        exact T1
      generalize SetTable.insertAt es p (x.2.hash w, Value.ref x.1) = es1 at rows1 ⊢
      generalize L.take p ++ x :: L.drop p = L1 at rows1 pm T2
      have len1 : L1.length = L.length + 1 := pm.length_eq
      have les : es1.size = L.length + 1 := by rw [← Array.length_toList, rows1, List.length_map, len1]
      have nd1 : (L1.map (·.2)).Nodup := (pm.map (·.2)).nodup_iff.mpr (List.nodup_cons.mpr ⟨hm, R.nd⟩)
      refine wpAny_bind (wpAny_storeSet_of ho hd ?_ (by rw [les, sizeLine_eq]; omega))
      have sb : Heap.SameBut a s.heap (s.heap.update a (Obj.putSet es1 t1)) := Heap.SameBut.update ..
      have ho1 := store_at (es' := es1) (t' := t1) ho hd
      generalize s.heap.update a (Obj.putSet es1 t1) = h1 at sb ho1 ⊢
      have keys1 : ∀ p, p ∈ L1 → NIs h1 p := fun p hp => by
        rcases List.mem_cons.mp (pm.mem_iff.mp hp) with e | hp
        · rw [e]; exact hx.beside ho hd sb
        · exact (R.keys p hp).beside ho hd sb
      by_cases hf : t1.tooFull = true
      · first
          | (refine wpAny_bind ?_; refine wp_if_pos (by simp [hf]) ?_)
          | (refine wp_if_pos (by simp [hf]) ?_; refine wpAny_bind ?_)
        have full : (L.length + 1) * 5 ≥ t.mask * 3 := by
          unfold SetTable.tooFull at hf
          rw [decide_eq_true_eq, f1, m1] at hf
          exact hf
        have two : (t.mask = 7 ∧ L.length = 4) ∨ (t.mask = 31 ∧ L.length = 18) := by
          rcases R.tab.mok with e | e | e
          · left; rw [e] at full room; exact ⟨e, by omega⟩
          · right; rw [e] at full room; exact ⟨e, by omega⟩
          · exfalso; rw [e] at full; omega
        have psz : t1.place.size = es1.size := by
          have z : t1.place.size = L1.length := by simpa using T2.sz
          omega
        rw [len]
        have go : ∀ M, SetTable.sizeAbove (SetTable.grown (L.length + 1)) - 1 = M → MaskOk M → SetTable.sizeAbove (SetTable.grown (L.length + 1)) ≤ 128 → (L.length + 1) * 5 < M * 3 →
            wpAny (model P w) A (setRelay a (SetTable.grown (L.length + 1))) (fun _ s' => wpAny (model P w) A (pure true) Q E s') E { s with heap := h1 } := fun M g1 g2 g3 g4 =>
          nset_relay (s := { s with heap := h1 }) ho1 ⟨hex.1, hex.2.1, hex.2.2⟩ rfl rows1 psz d1 (by rw [les, m1]; rcases two with ⟨e, e2⟩ | ⟨e, e2⟩ <;> omega) nd1 keys1 (by omega) l1 g1 g2 g3 (by omega) fun h2 L2 es2 ep2 t2 sb2 R2 pm2 =>
            wpAny_pure (hQ true h2 L2 es2 ep2 t2 (sb.trans sb2) R2 (fun z => absurd z hm) fun _ => pm2.trans pm)
        rcases two with ⟨_, e2⟩ | ⟨_, e2⟩
        · exact go 31 (by rw [e2, size_20]) (.inr (.inl rfl)) (by rw [e2, size_20]; decide) (by omega)
        · exact go 127 (by rw [e2, size_76]) (.inr (.inr rfl)) (by rw [e2, size_76]; decide) (by omega)
      · first
          | refine wp_if_neg (by simp [hf]) ?_
          | (refine wpAny_bind ?_; refine wp_if_neg (by simp [hf]) ?_; refine wpAny_pure ?_)
        refine wpAny_pure (hQ true h1 L1 es1 (ep + 1) t1 sb ⟨⟨_, ho1, ⟨hex.1, hex.2.1, hex.2.2⟩, rfl⟩, rows1, T2, nd1, keys1, ?_, by omega, l1⟩ (fun z => absurd z hm) fun _ => pm)
        unfold SetTable.tooFull at hf
        rw [decide_eq_true_eq, f1, m1] at hf
        rw [m1]
        omega
    by_cases hpl : t0.plain = true
    · first
        | (refine wpAny_bind ?_; refine wp_if_pos hpl ?_; exact hashTold_key _ _ 8 s hx.1 hx.2 _ _ _ told)
        | exact wp_if_pos hpl (wpAny_bind (hashTold_key _ _ 8 s hx.1 hx.2 _ _ _ told))
    · first
        | (refine wpAny_bind ?_; refine wp_if_neg hpl ?_; exact wpAny_pure (told true))
        | exact wp_if_neg hpl (wpAny_bind (wpAny_pure (told true)))
        | exact wp_if_neg hpl (told true)
end
end NF
namespace NF
open PySem L2 PySem.Spec PyProof.Rows

/-- a key of a set by its value and what it tells -/
abbrev VKey := Value × NestedKey
def VIs (h : Heap) (p : VKey) : Prop := NestedIs h p.2 p.1 ∧ p.2.depth ≤ 8
theorem VIs.kept {h h' : Heap} {p : VKey} (x : VIs h p) (k : ∀ b o, h.get? b = some o → h'.get? b = some o) : VIs h' p := ⟨NestedIs.at (fun b o _ _ e _ => k b o e) _ _ x.1, x.2⟩
abbrev emptySet (w : World) : Obj := { cls := .type "set", dict := none, data := .set #[] 0 (.fresh 0 0 (!w.params.followText "set-order")) }
/-- how a set of such keys stands, is added to, and is read -/
structure SetLaw (P : Program) (w : World) (ok : VKey → Prop) (S : Heap → Addr → List VKey → Prop) : Prop where
  new : ∀ {h : Heap} {a : Addr}, h.get? a = some (emptySet w) → S h a []
  stays : ∀ {h h' : Heap} {a : Addr} {L : List VKey}, S h a L → (∀ o, h.get? a = some o → h'.get? a = some o) → (∀ p, p ∈ L → VIs h' p) → S h' a L
  add : ∀ {A : Around} {E : Value → Shared → Prop} {s : Shared} {a : Addr} {L : List VKey} {x : VKey} {Q : Bool → Shared → Prop}, S s.heap a L → ok x → VIs s.heap x → A.units + 8 < cLine → L.length + 1 < 64 →
    (∀ b h' L', Heap.SameBut a s.heap h' → S h' a L' → (x.2 ∈ L.map (·.2) → L' = L) → (x.2 ∉ L.map (·.2) → L'.Perm (x :: L)) → Q b { s with heap := h' }) → wpAny (model P w) A (setAddHashed a x.1 (x.2.hash w)) Q E s
  hash : ∀ {A : Around} {E : Value → Shared → Prop} {s : Shared} {x : VKey} {Q : Int → Shared → Prop}, ok x → VIs s.heap x → A.units + 8 < cLine → (∀ n : Nat, Q (x.2.hash w) { s with toks := s.toks + n }) → wpAny (model P w) A (pyHash x.1) Q E s
  out : ∀ {h : Heap} {a : Addr} {L : List VKey}, S h a L → (L.map (·.2)).Nodup ∧ L.length < 64 ∧ ∃ o es ep t, h.get? a = some o ∧ o.ExactSet ∧ o.data = .set es ep t ∧ t.fits es.size = true ∧ Ris t.place.toList ∧
    (w.params.followText "set-order" = true ∨ t.led = true) ∧ es.toList.map (·.2) = L.map (·.1)
/-- what is in the set behind the first i -/
structure Had (ks : List VKey) (i : Nat) (L : List VKey) : Prop where
  sub : ∀ p, p ∈ L → p ∈ ks.take i
  all : ∀ p, p ∈ ks.take i → p.2 ∈ L.map (·.2)
  len : L.length ≤ i
theorem had_next {ks L L' : List VKey} {i : Nat} {x : VKey} (g : Had ks i L) (e : ks[i]? = some x) (c1 : x.2 ∈ L.map (·.2) → L' = L) (c2 : x.2 ∉ L.map (·.2) → L'.Perm (x :: L)) : Had ks (i + 1) L' := by
  have tk : ks.take (i + 1) = ks.take i ++ [x] := by rw [List.take_succ, e]; rfl
  by_cases c : x.2 ∈ L.map (·.2)
  · rw [c1 c]
    refine ⟨fun p hp => by rw [tk]; exact List.mem_append_left _ (g.sub p hp), fun p hp => ?_, Nat.le_succ_of_le g.len⟩
    rw [tk] at hp
    rcases List.mem_append.mp hp with z | z
    · exact g.all p z
    · rw [List.mem_singleton.mp z]; exact c
  · have pm := c2 c
    refine ⟨fun p hp => ?_, fun p hp => ?_, by rw [pm.length_eq]; exact Nat.succ_le_succ g.len⟩
    · rw [tk]
      rcases List.mem_cons.mp (pm.mem_iff.mp hp) with z | z
      · rw [z]; simp
      · exact List.mem_append_left _ (g.sub p z)
    · rw [(pm.map (·.2)).mem_iff, List.map_cons]
      rw [tk] at hp
      rcases List.mem_append.mp hp with z | z
      · exact List.mem_cons_of_mem _ (g.all p z)
      · rw [List.mem_singleton.mp z]; exact List.mem_cons_self ..
theorem perm_map_of {α β : Type} {f : α → β} : ∀ {l : List β} {m : List α}, l.Perm (m.map f) → ∃ m' : List α, l = m'.map f ∧ m'.Perm m := by
  intro l m h
  generalize e : m.map f = n at h
  induction h generalizing m with
  | nil => exact ⟨[], rfl, by rw [List.map_eq_nil_iff.mp e]⟩
  | cons x _ ih =>
    cases m with
    | nil => cases e
    | cons a m =>
      rw [List.map_cons] at e
      injection e with e1 e2
      obtain ⟨m', h1, h2⟩ := ih e2
      exact ⟨a :: m', by rw [h1, List.map_cons, e1], h2.cons a⟩
  | swap x y l =>
    match m, e with
    | a :: b :: m, e =>
      simp only [List.map_cons, List.cons.injEq] at e
      obtain ⟨rfl, rfl, rfl⟩ := e
      exact ⟨b :: a :: m, rfl, .swap a b m⟩
  | trans _ _ ih1 ih2 =>
    obtain ⟨m1, h1, p1⟩ := ih2 e
    obtain ⟨m2, h2, p2⟩ := ih1 h1.symm
    exact ⟨m2, h2, p2.trans p1⟩
section
variable {P : Program} {w : World} {A : Around} {E : Value → Shared → Prop} {s : Shared}
theorem nset_new {h : Heap} {a : Addr} (ho : h.get? a = some (emptySet w)) : NSet w h a [] #[] 0 (.fresh 0 0 (!w.params.followText "set-order")) :=
  ⟨⟨_, ho, ⟨rfl, rfl, rfl⟩, rfl⟩, rfl, ⟨List.Pairwise.nil, rfl, rfl, .inl rfl, fun x hx => (by cases hx), fun i h j hi => (by simp at hi)⟩, List.nodup_nil, fun p hp => (by cases hp), by show 0 * 5 < 7 * 3; decide, by show 0 < 64; decide, by
    cases e : w.params.followText "set-order" with
    | true => exact .inl rfl
    | false => exact .inr rfl⟩
theorem NSet.stays {h h' : Heap} {a : Addr} {L : List NKey} {es : Array (Int × Value)} {ep : Nat} {t : SetTable} (R : NSet w h a L es ep t) (ha : ∀ o, h.get? a = some o → h'.get? a = some o) (hk : ∀ p, p ∈ L → NIs h' p) : NSet w h' a L es ep t := by
  obtain ⟨o, ho, r⟩ := R.ob
  exact ⟨⟨o, ha o ho, r⟩, R.rows, R.tab, R.nd, hk, R.room, R.few, R.led⟩
/-- tuples as keys -/
def vk (p : NKey) : VKey := (.ref p.1, p.2)
def RSet (w : World) (h : Heap) (a : Addr) (L : List VKey) : Prop := ∃ (L0 : List NKey) (es : Array (Int × Value)) (ep : Nat) (t : SetTable), L = L0.map vk ∧ NSet w h a L0 es ep t
theorem setlaw_ref (P : Program) (w : World) : SetLaw P w (fun x => ∃ b, x.1 = Value.ref b) (RSet w) where
  new := fun ho => ⟨[], _, _, _, rfl, nset_new ho⟩
  stays := fun ⟨L0, es, ep, t, e, R⟩ ha hk => ⟨L0, es, ep, t, e, R.stays ha fun p hp => hk (vk p) (by rw [e]; exact List.mem_map.mpr ⟨p, hp, rfl⟩)⟩
  add := by
    rintro A E s a L ⟨v, k⟩ Q ⟨L0, es, ep, t, rfl, R⟩ ⟨b, e⟩ hx hu hl hq
    have e' : v = Value.ref b := e
    subst e'
    rw [List.length_map] at hl
    have mm : ∀ l : List NKey, (l.map vk).map (·.2) = l.map (·.2) := fun l => by rw [List.map_map]; rfl
    refine nset_add (x := (b, k)) R hx hu hl fun c h' L' es' ep' t' sb R' c1 c2 => hq c h' (L'.map vk) sb ⟨L', es', ep', t', rfl, R'⟩ (fun z => ?_) fun z => ?_
    · rw [mm] at z; rw [c1 z]
    · rw [mm] at z; exact (c2 z).map vk
  hash := by
    rintro A E s ⟨v, k⟩ Q ⟨b, e⟩ hx hu hq
    have e' : v = Value.ref b := e
    subst e'
    exact (nestedKind P w).pyHash (k := k) hu hx (hq _)
  out := by
    rintro h a L ⟨L0, es, ep, t, rfl, R⟩
    obtain ⟨o, ho, hex, hd⟩ := R.ob
    have mm : ∀ l : List NKey, (l.map vk).map (·.2) = l.map (·.2) := fun l => by rw [List.map_map]; rfl
    refine ⟨by rw [mm]; exact R.nd, by rw [List.length_map]; exact R.few, o, es, ep, t, ho, hex, hd, R.fits, R.tab.ris, R.led, ?_⟩
    rw [R.rows, List.map_map, List.map_map]
    rfl
/-- texts as keys -/
def TOk (x : VKey) : Prop := ∃ (y : Str) (t : Tok), x = (.str y t, .text y)
def TSet (w : World) (h : Heap) (a : Addr) (L : List VKey) : Prop := ∃ o es ep t, h.get? a = some o ∧ o.ExactSet ∧ o.data = .set es ep t ∧ es.toList = L.map (fun p => (p.2.hash w, p.1)) ∧ (∀ p, p ∈ L → TOk p) ∧ (L.map (·.2)).Nodup ∧ t.fits es.size = true ∧ Ris t.place.toList ∧
  (w.params.followText "set-order" = true ∨ t.led = true) ∧ L.length < 64
theorem tset_tail {g : Bool → Sem Unit} (hg : ∀ (b : Bool) (s₁ : Shared) (Q' : Unit → Shared → Prop), Q' () s₁ → wpAny (model P w) A (g b) Q' E s₁)
    {a : Addr} {o : Obj} {es : Array (Int × Value)} {ep : Nat} {t : SetTable} (ho : s.heap.get? a = some o) (hex : o.ExactSet) (hd : o.data = .set es ep t)
    {es1 : Array (Int × Value)} {t2 : SetTable} {L1 : List VKey} (r1 : es1.toList = L1.map (fun p => (p.2.hash w, p.1))) (g1 : ∀ p, p ∈ L1 → TOk p) (nd1 : (L1.map (·.2)).Nodup) (few : L1.length < 64)
    (hf2 : t2.fits es1.size = true) (hr : Ris t2.place.toList) (hl : w.params.followText "set-order" = true ∨ t2.led = true) {wasDummy : Bool} {R : Option Bool → Shared → Prop}
    (hR : ∀ h' L', Heap.SameBut a s.heap h' → TSet w h' a L' → L'.Perm L1 → R (some true) { s with heap := h' }) :
    wpAny (model P w) A (do
        storeSet a es1 t2
        if (!wasDummy && t2.tooFull) = true then do
            g (relayAll t2 es1 (SetTable.grown es1.size)).2.2
            storeSet a (relayAll t2 es1 (SetTable.grown es1.size)).1 (relayAll t2 es1 (SetTable.grown es1.size)).2.1
            pure (some true)
          else pure (some true)) R E s := by
  have sz1 : es1.size = L1.length := by rw [← Array.length_toList, r1, List.length_map]
  have hb1 : es1.size < scanBound := by unfold scanBound; omega
  refine wpAny_bind (wpAny_storeSet_of ho hd ?_ (fits_of_scanBound hb1))
  have ho1 := store_at (es' := es1) (t' := t2) ho hd
  have sb1 := Heap.SameBut.update s.heap a (Obj.putSet es1 t2)
  split
  · have pm := relayAll_perm t2 es1 (SetTable.grown es1.size)
    have hf3 := relayAll_fits t2 es1 (SetTable.grown es1.size)
    have hr3 := relayAll_ris t2 es1 (SetTable.grown es1.size)
    have hl3 := relayAll_led t2 es1 (SetTable.grown es1.size)
    generalize relayAll t2 es1 (SetTable.grown es1.size) = Z at pm hf3 hr3 hl3 ⊢
    obtain ⟨es2, t3, gave⟩ := Z
    dsimp only at pm hf3 hr3 hl3 ⊢
    have hsz : es2.size = es1.size := by rw [← Array.length_toList, pm.length_eq, Array.length_toList]
    have hb2 : es2.size < scanBound := by rw [hsz]; exact hb1
    obtain ⟨L2, e2, p2⟩ : ∃ L2 : List VKey, es2.toList = L2.map (fun p => (p.2.hash w, p.1)) ∧ L2.Perm L1 := by
      rw [r1] at pm
      exact perm_map_of pm
    refine wpAny_bind (hg _ _ _ ?_)
    refine wpAny_bind (wpAny_storeSet_of ho1 rfl ?_ (fits_of_scanBound hb2))
    have ho2 := store_at (es' := es2) (t' := t3) ho1 rfl
    refine wpAny_pure (hR _ L2 (sb1.trans (Heap.SameBut.update _ a _)) ?_ p2)
    exact ⟨_, es2, _, t3, ho2, hex, rfl, e2, fun p hp => g1 p (p2.mem_iff.mp hp), (p2.map (·.2)).nodup_iff.mpr nd1, hf3, hr3, hl.imp id fun z => by rw [hl3]; exact z, by rw [p2.length_eq]; exact few⟩
  · exact wpAny_pure (hR _ L1 sb1 ⟨_, es1, _, t2, ho1, hex, rfl, r1, g1, nd1, hf2, hr, hl, few⟩ (.refl _))
theorem tset_add {a : Addr} {L : List VKey} {y : Str} {tk : Tok} {Q : Bool → Shared → Prop} (R : TSet w s.heap a L) (few : L.length + 1 < 64)
    (hQ : ∀ b h' L', Heap.SameBut a s.heap h' → TSet w h' a L' → (NestedKey.text y ∈ L.map (·.2) → L' = L) → (NestedKey.text y ∉ L.map (·.2) → L'.Perm ((.str y tk, .text y) :: L)) → Q b { s with heap := h' }) :
    wpAny (model P w) A (setAddHashed a (.str y tk) ((NestedKey.text y).hash w)) Q E s := by
  obtain ⟨o, es, ep, t, ho, hex, hd, rows, oks, nd, hf, hr, hl, hfew⟩ := R
  have sz : es.size = L.length := by rw [← Array.length_toList, rows, List.length_map]
  have hb : es.size < scanBound := by unfold scanBound; omega
  have hkey : (PySem.strKind P w).is y (.str y tk) = true := PySem.strKind_is P w y tk
  have hsc : (Value.str y tk).scannable = true := rfl
  have hash : ∀ z : Str, (NestedKey.text z).hash w = (PySem.strKind P w).hash z := fun z => rfl
  have hel : ElemsOf (PySem.strKind P w) es.toList := fun e he => by
    rw [rows] at he
    obtain ⟨p, hp, rfl⟩ := List.mem_map.mp he
    obtain ⟨z, u, rfl⟩ := oks p hp
    exact ⟨⟨z, PySem.strKind_is P w z u, hash z⟩, rfl⟩
  have mem : NestedKey.text y ∈ L.map (·.2) ↔ ∃ e ∈ es.toList, (PySem.strKind P w).is y e.2 = true := by
    rw [rows]
    constructor
    · intro h
      obtain ⟨p, hp, e⟩ := List.mem_map.mp h
      obtain ⟨z, u, rfl⟩ := oks p hp
      cases e
      exact ⟨_, List.mem_map.mpr ⟨_, hp, rfl⟩, PySem.strKind_is P w _ u⟩
    · rintro ⟨e, he, h⟩
      obtain ⟨p, hp, rfl⟩ := List.mem_map.mp he
      obtain ⟨z, u, rfl⟩ := oks p hp
      have := KeyKind.is_eq_decide (PySem.strKind_is P w z u) y
      rw [h] at this
      have e : y = z := by simpa using this.symm
      subst e
      exact List.mem_map.mpr ⟨_, hp, rfl⟩
  rw [hash y]
  unfold setAddHashed setAddHashedIn
  refine wpAny_holding (wpAny_bind (wpAny_setState_of ho hd hf ?_))
  dsimp only
  rw [byScan_of hsc hb hel]
  simp only [↓reduceIte]
  unfold setAddByScan
  refine wpAny_bind ?_
  refine wpAny_bind (wpAny_rule ?_)
  refine wpAny_bind (wpAny_setScan_of hkey ho hd hf hel ?_)
  cases hfi : List.findIdx? (fun e => (PySem.strKind P w).is y e.2) es.toList with
  | some j =>
    dsimp only
    obtain ⟨hj, pj, _⟩ := List.findIdx?_eq_some_iff_getElem.mp hfi
    have hm := mem.mpr ⟨es.toList[j], List.getElem_mem hj, pj⟩
    exact wpAny_pure (wpAny_pure (hQ _ s.heap L (Heap.SameBut.refl a s.heap) ⟨o, es, ep, t, ho, hex, hd, rows, oks, nd, hf, hr, hl, hfew⟩ (fun _ => rfl) fun z => absurd hm z))
  | none =>
    dsimp only
    have hnk : NestedKey.text y ∉ L.map (·.2) := fun z => by
      obtain ⟨e, he, q⟩ := mem.mp z
      have c := List.findIdx?_eq_none_iff.mp hfi e he
      rw [q] at c
      cases c
    have hgw : ∀ (b : Bool) {s₁ : Shared} {Q' : Unit → Shared → Prop}, Q' () s₁ → wpAny (model P w) A (match b with | true => rule "set.scan.the-table-gave-way" | false => pure ()) Q' E s₁ :=
      fun b s₁ Q' q => by cases b <;> first | exact wpAny_pure q | exact wpAny_rule q
    have pm := layNew_perm t es ((PySem.strKind P w).hash y) (.str y tk)
    have hf1 := layNew_fits t es ((PySem.strKind P w).hash y) (.str y tk)
    have hr1 := layNew_ris t es ((PySem.strKind P w).hash y) (.str y tk) hr
    have hl1 := layNew_led t es ((PySem.strKind P w).hash y) (.str y tk)
    generalize layNew t es ((PySem.strKind P w).hash y) (.str y tk) = Z at pm hf1 hr1 hl1 ⊢
    obtain ⟨es1, t1, wasDummy, gave⟩ := Z
    dsimp only at pm hf1 hr1 hl1 ⊢
    rw [Array.toList_push] at pm
    have pc : es1.toList.Perm (((PySem.strKind P w).hash y, Value.str y tk) :: es.toList) := pm.trans (List.perm_append_singleton _ _)
    obtain ⟨L1, e1, p1⟩ : ∃ L1 : List VKey, es1.toList = L1.map (fun p => (p.2.hash w, p.1)) ∧ L1.Perm ((.str y tk, .text y) :: L) := by
      refine perm_map_of ?_
      rw [List.map_cons, ← rows]
      exact pc
    have g1 : ∀ p, p ∈ L1 → TOk p := fun p hp => by
      rcases List.mem_cons.mp (p1.mem_iff.mp hp) with z | z
      · rw [z]; exact ⟨y, tk, rfl⟩
      · exact oks p z
    have nd1 : (L1.map (·.2)).Nodup := (p1.map (·.2)).nodup_iff.mpr (List.nodup_cons.mpr ⟨hnk, nd⟩)
    have few1 : L1.length < 64 := by rw [p1.length_eq]; simpa using few
    have hled : w.params.followText "set-order" = true ∨ t1.led = true := hl.imp id fun z => by rw [hl1]; exact z
    have fin : ∀ h' L', Heap.SameBut a s.heap h' → TSet w h' a L' → L'.Perm L1 → Q true { s with heap := h' } := fun h' L' sb r pl => hQ true h' L' sb r (fun z => absurd z hnk) fun _ => pl.trans p1
    refine wpAny_bind (hgw _ ?_)
    split
    · refine wpAny_bind ?_
      rw [hashByValue_scannable 8 hsc]
      refine wpAny_pure ?_
      refine tset_tail ?_ ho hex hd e1 g1 nd1 few1 ?_ ?_ ?_ ?_
      · intro b s₁ Q' q; cases b <;> first | exact wpAny_pure q | exact wpAny_rule q
      · first | (split <;> first | exact hf1 | exact SetTable.fits_plain_off hf1) | exact hf1
      · first | (split <;> exact hr1) | exact hr1
      · first | (split <;> exact hled) | exact hled
      · intro h' L' sb r pl; dsimp only; exact wpAny_pure (fin h' L' sb r pl)
    · refine wpAny_bind (wpAny_pure ?_)
      simp only [↓reduceIte]
      refine tset_tail ?_ ho hex hd e1 g1 nd1 few1 hf1 hr1 hled ?_
      · intro b s₁ Q' q; cases b <;> first | exact wpAny_pure q | exact wpAny_rule q
      · intro h' L' sb r pl; dsimp only; exact wpAny_pure (fin h' L' sb r pl)
theorem setlaw_text (P : Program) (w : World) : SetLaw P w TOk (TSet w) where
  new := fun ho => ⟨_, #[], 0, _, ho, ⟨rfl, rfl, rfl⟩, rfl, rfl, fun p hp => (by cases hp), List.nodup_nil, rfl, List.Pairwise.nil, by
    cases e : w.params.followText "set-order" with
    | true => exact .inl rfl
    | false => exact .inr rfl, by decide⟩
  stays := fun ⟨o, es, ep, t, ho, r⟩ ha _ => ⟨o, es, ep, t, ha o ho, r⟩
  add := by
    rintro A E s a L x Q R ⟨y, t, rfl⟩ hx hu hl hq
    exact tset_add R hl hq
  hash := by
    rintro A E s x Q ⟨y, t, rfl⟩ hx hu hq
    exact wpAny_pyHash_str (hq _)
  out := by
    rintro h a L ⟨o, es, ep, t, ho, hex, hd, rows, oks, nd, hf, hr, hl, hfew⟩
    refine ⟨nd, hfew, o, es, ep, t, ho, hex, hd, hf, hr, hl, ?_⟩
    rw [rows, List.map_map]
    rfl
theorem set_loop {ok : VKey → Prop} {SP : Heap → Addr → List VKey → Prop} (law : SetLaw P w ok SP) {I : Addr} {fp wr : List Addr} {G : Array GenState → Array GenState → Prop} {n : Nat} {Pv : Nat → Value → Prop} {St : Nat → Shared → Prop} {R : Result → Shared → Prop} (W : WalksS P w A.in1 I fp wr G n Pv St) (S : Addr) (hSf : S ∉ fp) (ks : List VKey)
    (hn : n = ks.length) (hfew : ks.length < 64) (hval : ∀ i v, Pv i v → ∃ p, ks[i]? = some p ∧ v = p.1 ∧ ok p) (h0 : Heap) (hk : ∀ p, p ∈ ks → VIs h0 p) (hS0 : h0.get? S = none) (hw0 : ∀ b, b ∈ wr → h0.get? b = none) (hu : A.in1.units + 8 < cLine) :
    ∀ (k i : Nat) (s : Shared), n - i = k → i ≤ n → St i s → (∀ b o, h0.get? b = some o → s.heap.get? b = some o) → (∃ L, SP s.heap S L ∧ Had ks i L) →
      (∀ s' L, Moved (S :: wr) G s s' → SP s'.heap S L → Had ks n L → (∀ b o, h0.get? b = some o → s'.heap.get? b = some o) → R (.ok (.ret .none)) s') →
      codeAny (model P w) A (.builtin "set.update.loop" ⟨[.ref S, .ref I], []⟩) R s := by
  have hSw : S ∉ wr := fun h => hSf (W.sub _ h)
  have more : ∀ b, b ∈ wr → b ∈ S :: wr := fun b hb => List.mem_cons_of_mem _ hb
  have old : ∀ {s s' : Shared}, Moved wr G s s' → (∀ b o, h0.get? b = some o → s.heap.get? b = some o) → ∀ b o, h0.get? b = some o → s'.heap.get? b = some o := fun hm kp b o e =>
    hm.heap b o (fun hb => by rw [hw0 b hb] at e; cases e) (kp b o e)
  intro k
  induction k with
  | zero =>
    intro i s hk' hi hst kp ⟨L, hS, g⟩ hR
    obtain rfl : i = n := by omega
    refine codeAny_builtin F.entry_set_update_loop ?_
    rw [Around.under_plainId F.plain_set_update_loop _]
    refine wpAny_bind (W.done s _ _ hst fun s' hm => ?_)
    have kp' := old hm kp
    exact wpAny_pure (hR s' L (hm.mono more) (law.stays hS (fun o e => hm.heap S o hSw e) fun p hp => (hk p (List.mem_of_mem_take (g.sub p hp))).kept kp') g kp')
  | succ k ih =>
    intro i s hk' hi hst kp ⟨L, hS, g⟩ hR
    have hlt : i < n := by omega
    refine codeAny_builtin F.entry_set_update_loop ?_
    rw [Around.under_plainId F.plain_set_update_loop _]
    refine wpAny_bind (W.item i s _ _ hlt hst fun v s' hP hst' hm => ?_)
    obtain ⟨p, hp, rfl, okp⟩ := hval i v hP
    have kp' := old hm kp
    have hS' : SP s'.heap S L := law.stays hS (fun o e => hm.heap S o hSw e) fun q hq => (hk q (List.mem_of_mem_take (g.sub q hq))).kept kp'
    have hx : VIs s'.heap p := (hk p (List.mem_of_getElem? hp)).kept kp'
    show wpAny _ A.in1 (holding [p.1] (setAdd S p.1) >>= _) _ _ s'
    refine wpAny_bind (wpAny_holding ?_)
    unfold setAdd
    refine wpAny_holding (wpAny_bind (law.hash okp hx hu fun n => ?_))
    refine law.add (s := { s' with toks := s'.toks + n }) hS' okp hx hu (by have := g.len; omega) fun b h' L' sb hS2 c1 c2 => ?_
    have g' := had_next g hp c1 c2
    have kp2 : ∀ b o, h0.get? b = some o → h'.get? b = some o := fun b o e => (sb.2 b (fun z => by rw [z, hS0] at e; cases e)).trans (kp' b o e)
    refine wpAny_pure ⟨plainId_quiet F.plain_set_update_loop _, ih (i + 1) _ (by omega) hlt (W.frame _ s' _ _ hst' (Nat.le_add_right _ _) fun b hb o e => ?_) kp2 ⟨L', hS2, g'⟩ fun s'' L2 hm'' hS'' g'' kp'' => ?_⟩
    · rw [sb.2 b (fun z : b = S => hSf (by rw [← z]; exact hb))]; exact e
    · refine hR s'' L2 (Moved.trans W.gtrans ((hm.mono more).then_heap (Nat.le_add_right _ _) fun b o hb e => ?_) hm'') hS'' g'' kp''
      rw [sb.2 b (fun z : b = S => hb (by rw [z]; exact List.mem_cons_self ..))]; exact e
theorem call_setL {ok : VKey → Prop} {SP : Heap → Addr → List VKey → Prop} (law : SetLaw P w ok SP) {l : Addr} {items : Array Value} (ks : List VKey) {Q : Value → Shared → Prop} (hh : A.handled = none) (hl : s.heap.IsList l items) (hit : items.toList = ks.map fun p => p.1) (hok : ∀ p, p ∈ ks → ok p) (hk : ∀ p, p ∈ ks → VIs s.heap p) (hfew : ks.length < 64) (hu : A.units + 11 < cLine)
    (fin : ∀ (h' : Heap) (tk : Nat) L, SP h' s.heap.objs.size L → Had ks ks.length L → (∀ b o, s.heap.get? b = some o → h'.get? b = some o) → Q (.ref s.heap.objs.size) { s with heap := h', toks := tk }) : wpAny (model P w) A (call (.type "set") [.ref l]) Q E s := by
  have isz : items.size = ks.length := by rw [← Array.length_toList, hit, List.length_map]
  obtain ⟨c, tl, hmro⟩ := F.called_set.mro
  have hmade := F.called_set.made
  have hsub := F.called_set.sub
  refine wpAny_call (codeAny_of_tree ?_)
  refine wpAny_pure ⟨Code.quiet_builtin _ (by decide +kernel), codeAny_builtin F.entry_type_call ?_⟩
  rw [Around.under_plain (weight_type_call_type "set" [.ref l] []) rfl]
  have h1 := F.called_set.notType
  have h2 := F.called_set.canCreate
  have hct := F.typeCall_set_1 (.ref l)
  repeat (any_goals (first | assumption | wp_step))
  refine codeAny_mono (code_set_led1 (.ref l) (E := E) (Q₁ := fun obj s₁ => obj = .ref s.heap.objs.size ∧ s₁ = { s with heap := s.heap.push (emptySet w) }) ⟨rfl, rfl⟩) fun r s₁ hr => ?_
  cases r with
  | error e => exact hr
  | ok fl =>
    cases fl with
    | ret obj =>
      obtain ⟨rfl, rfl⟩ := hr
      have hS : (s.heap.push (emptySet w)).get? s.heap.objs.size = some (emptySet w) := Heap.get?_push_size _ rfl
      have hT : Shared.TypeIs { s with heap := s.heap.push (emptySet w) } (.ref s.heap.objs.size) "set" := ⟨_, hS, rfl⟩
      have hli := F.called_set.init.lookup
      have hbi := F.called_set.init.bind (.ref s.heap.objs.size)
      repeat (any_goals (first | assumption | wp_step))
      refine codeAny_mono (codeAny_call_builtin (R := wants (fun r s₂ => r = .none ∧ ∃ h' tk L, s₂ = { s with heap := h', toks := tk } ∧ SP h' s.heap.objs.size L ∧ Had ks ks.length L ∧ (∀ b o, s.heap.get? b = some o → h'.get? b = some o)) E) F.called_set.init.plain F.entry_set_init (check_set_init_1 hT ?_)) fun r₂ s₂ hr₂ => ?_
      · obtain ⟨⟨ocls, odict, odata, oslots⟩, hol, hcl, nl, hdl⟩ := hl
        simp only at hcl hdl
        subst hcl; subst hdl
        have hol' : (s.heap.push (emptySet w)).get? l = some { cls := .type "list", dict := odict, data := .seq items nl, slots := oslots } := Heap.get?_push_of_some _ hol
        have hsls := F.sub_list_set
        have hslf := F.sub_list_frozenset
        have hne : (Value.type "list" == Value.type "dict") = false := by decide
        have hl1 : (s.heap.push (emptySet w)).IsList l items := ⟨_, hol', rfl, nl, rfl⟩
        unfold Builtin.«set.__init__» noKeywords Builtin.Frozenset.updateFrom
        generalize hPI : pyIter = PI
        wp_walk
        subst hPI
        refine wpAny_pyIter_list hl1 (wpAny_bind (wpAny_runValue ?_))
        have hh3 : A.in1.in1.in1.handled = none := by simp [hh]
        have lS : l < s.heap.objs.size := Heap.lt_size hol
        have neI : l ≠ (s.heap.push (emptySet w)).objs.size := by rw [Heap.size_push]; exact Nat.ne_of_lt (Nat.lt_succ_of_lt lS)
        have hSf : s.heap.objs.size ∉ [(s.heap.push (emptySet w)).objs.size, l] := by
          rw [Heap.size_push]
          simp only [List.mem_cons, List.not_mem_nil, or_false, not_or]
          exact ⟨Nat.ne_of_lt (Nat.lt_succ_self _), Nat.ne_of_gt lS⟩
        have hval : ∀ (i : Nat) (v : Value), items[i]? = some v → ∃ p, ks[i]? = some p ∧ v = p.1 ∧ ok p := fun i v hv => by
          rw [← Array.getElem?_toList, hit, List.getElem?_map] at hv
          obtain ⟨p, e1, e2⟩ := Option.map_eq_some_iff.mp hv
          exact ⟨p, e1, e2.symm, hok p (List.mem_of_getElem? e1)⟩
        have none_of : ∀ b, s.heap.objs.size ≤ b → s.heap.get? b = none := fun b hb => by
          cases q : s.heap.get? b with
          | none => rfl
          | some o => exact absurd (Nat.lt_of_lt_of_le (Heap.lt_size q) hb) (Nat.lt_irrefl _)
        refine set_loop law ((Walks.list hh3 _ l neI items).toS) s.heap.objs.size hSf ks isz hfew hval s.heap hk (none_of _ (Nat.le_refl _)) (fun b hb => none_of b (by rw [List.mem_singleton.mp hb, Heap.size_push]; omega)) (by show A.units + 1 + 1 + 1 + 8 < cLine; omega) (items.size - 0) 0 _ (by omega) (Nat.zero_le _)
          ⟨⟨_, Heap.get?_push_size _ rfl, rfl, rfl⟩, (hl1.push _)⟩ (fun b o e => Heap.get?_push_of_some _ (Heap.get?_push_of_some _ e)) ⟨[], law.new (Heap.get?_push_of_some _ hS), ⟨fun p h => (by cases h), fun p h => (by simp at h), Nat.le_refl _⟩⟩ ?_
        intro s' L hm hS' g' kp
        obtain ⟨h', g2, d', tk', os'⟩ := s'
        obtain rfl : g2 = s.gens := hm.gens
        obtain rfl : d' = s.drawn := hm.drawn
        obtain rfl : os' = s.os := hm.os
        rw [isz] at g'
        exact wpAny_pure (wpAny_pure ⟨rfl, h', tk', L, rfl, hS', g', kp⟩)
      · cases r₂ with
        | error e => exact hr₂
        | ok fl₂ =>
          cases fl₂ with
          | ret r =>
            obtain ⟨rfl, h', tk, L, rfl, hS', g', hk'⟩ := hr₂
            repeat (any_goals (first | assumption | wp_step))
            exact fin _ _ _ hS' g' hk'
          | _ => exact hr₂.elim
    | _ => exact hr.elim
end
end NF
namespace NF
open PySem L2 PySem.W PySem.Calls PyProof.Rows PySem.SeqAt

mutual
def D.nk : D → NestedKey
  | .int i => .num i
  | .str x => .text x
  | .tup ds => .tup (D.nkAll ds)
  | _ => .none
def D.nkAll : List D → List NestedKey
  | [] => []
  | d :: ds => d.nk :: D.nkAll ds
end
mutual
/-- None, ints, texts and tuples of such -/
def D.hashy : D → Bool
  | .non => true
  | .int _ => true
  | .str _ => true
  | .tup ds => D.hashyAll ds
  | _ => false
def D.hashyAll : List D → Bool
  | [] => true
  | d :: ds => d.hashy && D.hashyAll ds
end
mutual
theorem D.nk_depth : ∀ d : D, (D.nk d).depth ≤ D.deep d
  | .non => by simp [D.nk, NestedKey.depth]
  | .bl b => by simp [D.nk, NestedKey.depth]
  | .int i => by simp [D.nk, NestedKey.depth]
  | .str x => by simp [D.nk, NestedKey.depth]
  | .tup ds => by
    have := D.nkAll_depth ds
    simp [D.nk, NestedKey.depth, D.deep]; omega
  | .lst ds => by simp [D.nk, NestedKey.depth]
  | .dic _ _ => by simp [D.nk, NestedKey.depth]
  | .rcd _ _ _ => by simp [D.nk, NestedKey.depth]
  | .scr _ => by simp [D.nk, NestedKey.depth]
  | .op _ => by simp [D.nk, NestedKey.depth]
theorem D.nkAll_depth : ∀ ds : List D, NestedKey.depthAll (D.nkAll ds) ≤ D.deepAll ds
  | [] => by simp [D.nkAll, NestedKey.depthAll]
  | d :: ds => by
    have h1 := D.nk_depth d
    have h2 := D.nkAll_depth ds
    simp [D.nkAll, NestedKey.depthAll, D.deepAll]; omega
end
mutual
theorem D.nk_inj : ∀ (d e : D), D.hashy d = true → D.hashy e = true → D.nk d = D.nk e → d = e
  | .non, e, _, h, z => by cases e <;> simp [D.hashy] at h <;> simp [D.nk] at z <;> rfl
  | .int i, e, _, h, z => by cases e <;> simp [D.hashy] at h <;> simp [D.nk] at z; rw [z]
  | .str x, e, _, h, z => by cases e <;> simp [D.hashy] at h <;> simp [D.nk] at z; rw [z]
  | .tup ds, e, g, h, z => by
    cases e <;> simp [D.hashy] at h g <;> simp [D.nk] at z
    rename_i es
    rw [D.nkAll_inj ds es g h z]
  | .bl _, _, g, _, _ => by simp [D.hashy] at g
  | .lst _, _, g, _, _ => by simp [D.hashy] at g
  | .dic _ _, _, g, _, _ => by simp [D.hashy] at g
  | .rcd _ _ _, _, g, _, _ => by simp [D.hashy] at g
  | .scr _, _, g, _, _ => by simp [D.hashy] at g
  | .op _, _, g, _, _ => by simp [D.hashy] at g
theorem D.nkAll_inj : ∀ (ds es : List D), D.hashyAll ds = true → D.hashyAll es = true → D.nkAll ds = D.nkAll es → ds = es
  | [], [], _, _, _ => rfl
  | [], _ :: _, _, _, z => by simp [D.nkAll] at z
  | _ :: _, [], _, _, z => by simp [D.nkAll] at z
  | d :: ds, e :: es, g, h, z => by
    simp [D.hashyAll] at g h
    simp [D.nkAll] at z
    rw [D.nk_inj d e g.1 h.1 z.1, D.nkAll_inj ds es g.2 h.2 z.2]
end
section
variable {X : Cx} {pins : List (Addr × Obj)} {σ : L2.St} {H P : Hp} {s : Shared}
mutual
theorem D.nk_is {K : PySem.W.Frag} (ok : HOk X.prog X.w H s.heap) (le : Le P H) : ∀ (d : D) (v : V) (u : Value), D.hashy d = true → Rep K P v d → RelV v u → NestedIs s.heap (D.nk d) u
  | .non, _, _, _, r, q => by cases r; obtain rfl := q; exact .none
  | .int i, _, _, _, r, q => by cases r; obtain ⟨t, rfl⟩ := q; exact .int i t
  | .str x, _, _, _, r, q => by cases r; obtain ⟨t, rfl⟩ := q; exact .text x t
  | .tup ds, _, _, h, r, q => by
    cases r with
    | @tup a vs _ t al =>
      obtain rfl := q
      obtain ⟨_, its, rv, o, ho, hc, n, hd⟩ := ok a _ (le.tup t)
      exact .tup ho hc hd (D.nkAll_is ok le ds vs _ (by simpa [D.hashy] using h) al (by simpa using rv))
  | .bl _, _, _, h, _, _ => by simp [D.hashy] at h
  | .lst _, _, _, h, _, _ => by simp [D.hashy] at h
  | .dic _ _, _, _, h, _, _ => by simp [D.hashy] at h
  | .rcd _ _ _, _, _, h, _, _ => by simp [D.hashy] at h
  | .scr _, _, _, h, _, _ => by simp [D.hashy] at h
  | .op _, _, _, h, _, _ => by simp [D.hashy] at h
theorem D.nkAll_is {K : PySem.W.Frag} (ok : HOk X.prog X.w H s.heap) (le : Le P H) : ∀ (ds : List D) (vs : List V) (us : List Value), D.hashyAll ds = true → RepAll K P vs ds → Vals vs us → NestedAll s.heap (D.nkAll ds) us
  | [], _, _, _, r, q => by cases r; cases q; exact .nil
  | d :: ds, _, _, h, r, q => by
    cases r with
    | cons r1 r2 =>
      cases q with
      | cons q1 q2 =>
        simp [D.hashyAll] at h
        exact .cons (D.nk_is ok le d _ _ h.1 r1 q1) (D.nkAll_is ok le ds _ _ h.2 r2 q2)
end
end
/-- a key of a set: a tuple of plain data -/
def SetKey (d : D) : Prop := (∃ ds, d = .tup ds) ∧ D.hashy d = true ∧ D.deep d ≤ 8
/-- n is how many unlike ones there are -/
def IsCard (ds : List D) (n : Nat) : Prop := ∃ L : List D, L.Nodup ∧ (∀ d, d ∈ L ↔ d ∈ ds) ∧ L.length = n
theorem nodup_le {α : Type} : ∀ {l m : List α}, l.Nodup → (∀ x, x ∈ l → x ∈ m) → l.length ≤ m.length
  | [], _, _, _ => Nat.zero_le _
  | a :: l, m, nd, h => by
    obtain ⟨s, t, rfl⟩ := List.append_of_mem (h a (List.mem_cons_self ..))
    have n2 := List.nodup_cons.mp nd
    have := nodup_le (l := l) (m := s ++ t) n2.2 fun x hx => by
      have z := h x (List.mem_cons_of_mem _ hx)
      rcases List.mem_append.mp z with q | q
      · exact List.mem_append_left _ q
      · rcases List.mem_cons.mp q with e | q
        · subst e; exact absurd hx n2.1
        · exact List.mem_append_right _ q
    simp at this ⊢
    omega
theorem IsCard.nodup {ds : List D} {n : Nat} (h : IsCard ds n) (nd : ds.Nodup) : n = ds.length := by
  obtain ⟨L, h1, h2, rfl⟩ := h
  exact Nat.le_antisymm (nodup_le h1 fun x hx => (h2 x).mp hx) (nodup_le nd fun x hx => (h2 x).mpr hx)
/-- as many keys as things, at least, where a key tells the thing -/
theorem IsCard.inj {ds : List D} {n m : Nat} {f : D → D} (h : IsCard ds n) (g : IsCard (ds.map f) m) (inj : ∀ d e, d ∈ ds → e ∈ ds → f d = f e → d = e) : n ≤ m := by
  obtain ⟨L, h1, h2, rfl⟩ := h
  obtain ⟨L', g1, g2, rfl⟩ := g
  rw [← List.length_map f]
  refine nodup_le ?_ fun x hx => ?_
  · refine List.pairwise_map.mpr ?_
    refine List.Pairwise.imp_of_mem ?_ h1
    intro a b ha hb ne e
    exact ne (inj a b ((h2 a).mp ha) ((h2 b).mp hb) e)
  · obtain ⟨d, hd, rfl⟩ := List.mem_map.mp hx
    exact (g2 _).mpr (List.mem_map.mpr ⟨d, (h2 d).mp hd, rfl⟩)
/-- all tuples, or all texts -/
def SetAll (ds : List D) : Prop := (∀ d, d ∈ ds → SetKey d) ∨ ∀ d, d ∈ ds → ∃ x, d = D.str x
def wLenSet (we : WE) : WE := fun Γ M Φ => we Γ M fun d M1 => ∃ ds, Now M1 d (.lst ds) ∧ ds.length < 64 ∧ SetAll ds ∧ ∀ n : Nat, IsCard ds n → Φ (.int n) M1
theorem SetAll.hashy {ds : List D} (h : SetAll ds) : ∀ d, d ∈ ds → D.hashy d = true ∧ D.deep d ≤ 8 := fun d hd => by
  rcases h with h | h
  · exact ⟨(h d hd).2.1, (h d hd).2.2⟩
  · obtain ⟨x, rfl⟩ := h d hd
    exact ⟨rfl, by simp [D.deep]⟩
/-- p is the key of one of ds -/
def KeyIn (K : PySem.W.Frag) (P : Hp) (ds : List D) (p : VKey) : Prop := ∃ x d, d ∈ ds ∧ D.nk d = p.2 ∧ RelV x p.1 ∧ Rep K P x d
theorem KeyIn.more {K : PySem.W.Frag} {P : Hp} {ds : List D} {d : D} {p : VKey} (h : KeyIn K P ds p) : KeyIn K P (d :: ds) p := by
  obtain ⟨x, e, he, r⟩ := h
  exact ⟨x, e, List.mem_cons_of_mem _ he, r⟩
theorem vkeys {X : Cx} {H P : Hp} {s : Shared} (ok : HOk X.prog X.w H s.heap) (le : Le P H) : ∀ (ds : List D) (vs : List V) (us : List Value), (∀ d, d ∈ ds → D.hashy d = true ∧ D.deep d ≤ 8) → RepAll X.K P vs ds → Vals vs us →
    ∃ ks : List VKey, us = ks.map (fun p => p.1) ∧ (∀ p, p ∈ ks → VIs s.heap p ∧ KeyIn X.K P ds p) ∧ ks.map (·.2) = ds.map D.nk
  | [], _, _, _, r, q => by cases r; cases q; exact ⟨[], rfl, fun p h => (by cases h), rfl⟩
  | d :: ds, _, _, h, r, q => by
    cases r with
    | @cons v vs _ _ r1 r2 =>
      cases q with
      | @cons _ u _ us q1 q2 =>
        obtain ⟨ks, e1, e2, e3⟩ := vkeys ok le ds _ _ (fun x hx => h x (List.mem_cons_of_mem _ hx)) r2 q2
        obtain ⟨hh, hdp⟩ := h d (List.mem_cons_self ..)
        refine ⟨(u, D.nk d) :: ks, by rw [e1]; rfl, fun p hp => ?_, by simp [e3]⟩
        rcases List.mem_cons.mp hp with e | hp
        · subst e
          exact ⟨⟨D.nk_is ok le _ _ _ hh r1 q1, Nat.le_trans (D.nk_depth _) hdp⟩, v, d, List.mem_cons_self .., rfl, q1, r1⟩
        · exact ⟨(e2 p hp).1, (e2 p hp).2.more⟩
theorem setAll_law (P : Program) (w : World) {K : PySem.W.Frag} {Pp : Hp} {ds : List D} (h : SetAll ds) : ∃ ok SP, SetLaw P w ok SP ∧ ∀ p, KeyIn K Pp ds p → ok p := by
  rcases h with h | h
  · refine ⟨_, _, setlaw_ref P w, fun p ⟨x, d, hd, e, rx, rd⟩ => ?_⟩
    obtain ⟨⟨es, rfl⟩, _, _⟩ := h d hd
    cases rd with
    | tup t al => exact ⟨_, rx⟩
  · refine ⟨_, _, setlaw_text P w, fun p ⟨x, d, hd, e, rx, rd⟩ => ?_⟩
    obtain ⟨y, rfl⟩ := h d hd
    cases rd
    obtain ⟨t, ht⟩ := rx
    obtain ⟨u, k⟩ := p
    have ht' : u = Value.str y t := ht
    have e' : NestedKey.text y = k := by simpa [D.nk] using e
    subst ht' e'
    exact ⟨y, t, rfl⟩
/-- the data of what is in the set -/
theorem set_data {K : PySem.W.Frag} {P : Hp} {ds : List D} (hh : ∀ d, d ∈ ds → D.hashy d = true) : ∀ (L : List VKey), (∀ p, p ∈ L → KeyIn K P ds p) → (L.map (·.2)).Nodup → ∃ L' : List D, L'.Nodup ∧ L'.map D.nk = L.map (·.2) ∧ (∀ d, d ∈ L' → d ∈ ds) ∧ EachIs (fun u d => ∃ x, RelV x u ∧ Rep K P x d) (L.map (·.1)) L'
  | [], _, _ => ⟨[], List.nodup_nil, rfl, fun d h => (by cases h), .nil⟩
  | p :: L, hm, nd => by
    have nd' := List.nodup_cons.mp nd
    obtain ⟨L', a1, a2, a3, a4⟩ := set_data hh L (fun x hx => hm x (List.mem_cons_of_mem _ hx)) nd'.2
    obtain ⟨x, d, hd, e, rx, rd⟩ := hm p (List.mem_cons_self ..)
    refine ⟨d :: L', List.nodup_cons.mpr ⟨fun z => nd'.1 ?_, a1⟩, by simp [a2, e], fun y hy => ?_, .cons ⟨x, rx, rd⟩ a4⟩
    · show p.2 ∈ L.map (·.2)
      rw [← a2, ← e]
      exact List.mem_map.mpr ⟨d, z, rfl⟩
    · rcases List.mem_cons.mp hy with e | hy
      · subst e; exact hd
      · exact a3 y hy
section
variable {X : Cx} {e : Expr} {we : WE} {p p2 pos pos2 : Pos}
/-- set(e), then what is wanted of it -/
theorem set_view {k : Nat} {pins : List (Addr × Obj)} {σ : L2.St} {H P : Hp} {s : Shared} {Γ : Ctx} {M : Mp} {Ψ : List D → Mp → Prop} {Q : Value → Shared → Prop} (hs : X.mg "set" = none) (hr : Room k X.A) (he : PD X e we) (I : Inv X pins σ H s) (sl : Slots X.K P σ Γ) (sa : Sat X.K P M H)
    (h : we Γ M fun d M1 => ∃ ds, Now M1 d (.lst ds) ∧ ds.length < 64 ∧ SetAll ds ∧ Ψ ds M1)
    (fin : ∀ (ds : List D) (M1 : Mp) (P1 H1 : Hp) (s1 : Shared) (a : Addr) (L : List VKey) (L' : List D) (ok : VKey → Prop) (SP : Heap → Addr → List VKey → Prop), Ψ ds M1 → Grow X.K P M H P1 M1 H1 → Inv X pins σ H1 s1 → SetLaw X.prog X.w ok SP → SP s1.heap a L → L'.Nodup → (∀ d, d ∈ L' ↔ d ∈ ds) → L.length = L'.length →
      EachIs (fun u d => ∃ x, RelV x u ∧ Rep X.K P1 x d) (L.map (·.1)) L' → Q (.ref a) s1)
    (hc : X.calm = true := by rfl) (hg2 : Gl X "set" := by rfl) (na : starEach [e] X.env = (false, eval e X.env) :: starEach [] X.env := by rfl) : wpAny (model X.prog X.w) X.A (eval (.Call (.Name "set" p2) [e] [] pos2) X.env) Q X.xe s := by
  refine Call_ (ld_blt I hg2 hs (u := .type "set") (by decide +kernel) ?_)
  refine PyProof.Rows.callWith_type1 (PyProof.Rows.args_cons (thn (he.run pins s σ H (fun v H1 => ∃ d M1 P1, (∃ ds, Now M1 d (.lst ds) ∧ ds.length < 64 ∧ SetAll ds ∧ Ψ ds M1) ∧ Grow X.K P M H P1 M1 H1 ∧ Rep X.K P1 v d) I
    ⟨Γ, M, P, _, sl, sa, h, fun d M1 h1 v P1 H1 g r => ⟨d, M1, P1, h1, g, r⟩⟩) fun u s1 ⟨x, H1, I1, rx, d, M1, P1, ⟨ds, nw, few, sk, h1⟩, g, r⟩ => PyProof.Rows.args_nil ?_) na) na rfl
  obtain ⟨la, ws, rfl, hla, hws⟩ := nw.sqL g.sat r
  obtain rfl : u = Value.ref la := rx
  obtain ⟨its, rv, pl, hz⟩ := I1.list (SqL.of hla)
  obtain ⟨ks, e1, e2, e3⟩ := vkeys (s := s1) I1.hok g.sat.sub ds ws its sk.hashy hws rv
  obtain ⟨ok, SP, law, lok⟩ := setAll_law X.prog X.w (K := X.K) (Pp := P1) sk
  have hlen : ks.length = ds.length := by
    have := congrArg List.length e3
    simpa using this
  refine call_setL law ks (I.ok.hd hc) pl.isList (by simpa using e1) (fun p hp => lok p (e2 p hp).2) (fun p hp => (e2 p hp).1) (by omega) (by have := hr.un; omega) fun h' tk L R had keep => ?_
  have I2 := I1.kept (t' := tk) keep
  obtain ⟨nd, _, _⟩ := law.out R
  have hin : ∀ p, p ∈ L → p ∈ ks := fun p hp => by
    have := had.sub p hp
    rw [List.take_length] at this
    exact this
  obtain ⟨L', a1, a2, a3, a4⟩ := set_data (fun d hd => (sk.hashy d hd).1) L (fun p hp => (e2 p (hin p hp)).2) nd
  refine fin ds M1 P1 H1 _ _ L L' ok SP h1 g I2 law R a1 (fun d => ⟨a3 d, fun hd => ?_⟩) (by have := congrArg List.length a2; simpa using this.symm) a4
  have : D.nk d ∈ ks.map (·.2) := by rw [e3]; exact List.mem_map.mpr ⟨d, hd, rfl⟩
  obtain ⟨p, hp, ep⟩ := List.mem_map.mp this
  have z := had.all p (by rw [List.take_length]; exact hp)
  rw [← a2, ep] at z
  obtain ⟨d', hd', e'⟩ := List.mem_map.mp z
  have := D.nk_inj d' d (sk.hashy d' (a3 d' hd')).1 (sk.hashy d hd).1 e'
  rw [← this]
  exact hd'
theorem d_lenSet {k : Nat} (hl : X.mg "len" = none) (hs : X.mg "set" = none) (hr : Room k X.A) (he : PD X e we) (hc : X.calm = true := by rfl) (hg : Gl X "len" := by rfl) (hg2 : Gl X "set" := by rfl)
    (na : starEach [e] X.env = (false, eval e X.env) :: starEach [] X.env := by rfl) (na2 : starEach [.Call (.Name "set" p2) [e] [] pos2] X.env = (false, eval (.Call (.Name "set" p2) [e] [] pos2) X.env) :: starEach [] X.env := by rfl) :
    PD X (.Call (.Name "len" p) [.Call (.Name "set" p2) [e] [] pos2] [] pos) (wLenSet we) := by
  refine ⟨fun pins s σ H Q I ⟨Γ, M, P, Φ, sl, sa, h, q⟩ => ?_⟩
  refine Call_ (ld_blt I hg hl (u := .builtin "len") (by decide +kernel) ?_)
  refine PyProof.Rows.callWith_builtin1 (PyProof.Rows.args_cons (set_view (Ψ := fun ds M1 => ∀ n : Nat, IsCard ds n → Φ (.int n) M1) hs hr he I sl sa h (fun ds M1 P1 H1 s1 a L L' ok SP h1 g I1 law R a1 a2 a3 a4 => PyProof.Rows.args_nil ?_) hc hg2 na) na2) na2 rfl
  obtain ⟨nd, few, o, es, ep, t, ho, hex, hd, hf, hr', hld, hes⟩ := law.out R
  have sz : es.size = L.length := by
    have := congrArg List.length hes
    simpa using this
  refine call_len_set (s := s1) ho hex hd hf (by omega) ?_
  have I3 := I1.kept (t' := s1.toks + 1 + 1) (h' := s1.heap) (fun b ob z => z)
  refine ⟨.int _, H1, I3, ⟨_, rfl⟩, q (.int L'.length) M1 (h1 _ ⟨L', a1, a2, rfl⟩) _ P1 H1 g (by rw [sz, a3]; exact .int _)⟩
end
/-- data that can be sorted -/
def SortsTo (ds : List PyData) : Prop := TupsTo ds ∨ (AllAlike ds ∧ Sortable ds)
theorem SortsTo.sub {ds es : List PyData} (h : SortsTo ds) (k : ∀ d, d ∈ es → d ∈ ds) : SortsTo es := by
  rcases h with h | ⟨h1, h2⟩
  · exact .inl ⟨fun d hd => h.tup d (k d hd), fun x r x' r' a b => h.fst x r x' r' (k _ a) (k _ b), fun xs ys a b => h.to xs ys (k _ a) (k _ b)⟩
  · refine .inr ⟨fun d hd d' hd' => h1 d (k d hd) d' (k d' hd'), ?_⟩
    rcases h2 with h2 | h2
    · exact .inl fun d hd => h2 d (k d hd)
    · exact .inr fun d hd => h2 d (k d hd)
theorem sortsAt_any {prog : Program} {w : World} {A : Around} {s : Shared} {vs : List Value} {ds : List PyData} (e : EachIs (fun v d => ∃ as, Reads s.heap v d as) vs ds) (t : SortsTo ds) (hu : ∀ d, d ∈ ds → A.units + d.depth < cLine) : SortsAt prog w A s (dataKind s.heap ds) vs := by
  rcases t with t | ⟨t1, t2⟩
  · exact sortsAt_to e t hu
  · exact SortsAt.data e t1 t2 hu
theorem each_perm {α β : Type} {R : α → β → Prop} {l l' : List α} (p : l'.Perm l) : ∀ {bs : List β}, EachIs R l bs → ∃ bs', bs'.Perm bs ∧ EachIs R l' bs' := by
  induction p with
  | nil => exact fun h => ⟨_, .refl _, h⟩
  | cons x _ ih =>
    intro bs h
    cases h with
    | cons r t =>
      obtain ⟨bs', p', e'⟩ := ih t
      exact ⟨_ :: bs', p'.cons _, .cons r e'⟩
  | swap x y l =>
    intro bs h
    cases h with
    | cons r t =>
      cases t with
      | cons r2 t2 => exact ⟨_, .swap _ _ _, .cons r2 (.cons r t2)⟩
  | trans _ _ ih1 ih2 =>
    intro bs h
    obtain ⟨b1, p1, e1⟩ := ih2 h
    obtain ⟨b2, p2, e2⟩ := ih1 e1
    exact ⟨b2, p2.trans p1, e2⟩
section
variable {prog : Program} {w : World} {A : Around} {E : Value → Shared → Prop} {s : Shared}
theorem sorted_setL {β : Type} {ok : VKey → Prop} {SP : Heap → Addr → List VKey → Prop} (law : SetLaw prog w ok SP) {a : Addr} {L : List VKey} {bs : List β} {enc : β → PyData} {Rv : Value → β → Prop} {Q : Value → Shared → Prop} (R : SP s.heap a L) (hh : A.handled = none) (ee : EachIs Rv (L.map (·.1)) bs)
    (ht : SortsTo (bs.map enc)) (hu : ∀ b, b ∈ bs → A.units + 2 + (enc b).depth < cLine) (hr : ∀ (v : Value) (b : β), Rv v b → b ∈ bs → ∃ as, Reads s.heap v (enc b) as)
    (h : ∀ (s' : Shared) (l : Addr) (out : List Value) (c : Nat) (bs' : List β), (∀ b o, s.heap.get? b = some o → s'.heap.get? b = some o) → s'.gens = s.gens → s'.os = s.os → s.heap.objs.size ≤ l → s'.heap.get? l = some (seqObj "list" out.toArray c) → bs'.Perm bs → EachIs Rv out (bs'.mergeSort (dataLe false enc)) → Q (.ref l) s') :
    wpAny (model prog w) A (call (.builtin "sorted") [.ref a]) Q E s := by
  obtain ⟨nd, few, o, es, ep, t, ho, hex, hd, hf, hris, hld, hes⟩ := law.out R
  have sz : es.size = L.length := by
    have := congrArg List.length hes
    simpa using this
  refine call_function_entry_kw kind_sorted plain_sorted entry_sorted (args_sorted1 _) ?_
  unfold Builtin.«sorted»
  refine wpAny_bind (m := checkCount "sorted" 1 1 _) (wpAny_pure ?_)
  refine wpAny_bind (collect_set (A := A.in1) hh ⟨o, ho, hex.1, hd⟩ hf (by unfold scanBound; omega) hris hld fun s1 vs k1 hz g1 o1 pm => ?_)
  rw [hes] at pm
  obtain ⟨bs', pb, eb⟩ := each_perm pm ee
  have hlen : vs.length = L.length := by rw [pm.length_eq, List.length_map]
  have hzl : vs.length ≤ sizeLine := by rw [sizeLine_eq]; omega
  have hsub : ∀ d, d ∈ bs'.map enc → d ∈ bs.map enc := fun d hd => (pb.map enc).mem_iff.mp hd
  refine wpAny_bind (wpAny_newList ?_ hzl)
  have hat : (s1.heap.push (seqObj "list" vs.toArray 0)).get? s1.heap.objs.size = some (seqObj "list" vs.toArray 0) := Heap.get?_push_size _ rfl
  have keep : ∀ b o, s.heap.get? b = some o → b ≠ s1.heap.objs.size ∧ (s1.heap.push (seqObj "list" vs.toArray 0)).get? b = some o := fun b o e =>
    ⟨Nat.ne_of_lt (Heap.lt_size (k1 b o e)), Heap.get?_push_of_some _ (k1 b o e)⟩
  have srt : ∀ b o, s.heap.get? b = some o → (sortingHeap (s1.heap.push (seqObj "list" vs.toArray 0)) s1.heap.objs.size vs).get? b = some o := fun b o e =>
    sortingHeap_old (keep b o e).1 (keep b o e).2
  refine wpAny_bind (wpAny_holding (wpAny_call_entry_kw slot_list_sort ⟨_, hat, rfl⟩ entry_list_sort ?body (args_list_sort _)))
  case body =>
    have em : EachIs (fun v b => ∃ as, Reads (sortingHeap (s1.heap.push (seqObj "list" vs.toArray 0)) s1.heap.objs.size vs) v (enc b) as) vs bs' := (each_mem eb).mono fun v b ⟨rv, hb⟩ => by
      obtain ⟨as, rr⟩ := hr v b rv (pb.mem_iff.mp hb)
      exact ⟨as, PyProof.Rows.Reads.keeps srt rr⟩
    have em2 := each_map (R := fun v d => ∃ as, Reads (sortingHeap (s1.heap.push (seqObj "list" vs.toArray 0)) s1.heap.objs.size vs) v d as) enc em
    refine list_sort_vals (κ := dataKind (sortingHeap (s1.heap.push (seqObj "list" vs.toArray 0)) s1.heap.objs.size vs) (bs'.map enc)) (s := { s1 with heap := s1.heap.push (seqObj "list" vs.toArray 0) }) hat
      (sortsAt_any (s := { s1 with heap := sortingHeap (s1.heap.push (seqObj "list" vs.toArray 0)) s1.heap.objs.size vs }) em2 (ht.sub hsub) (bound_map (A := A.in1.in1) fun b hb => hu b (pb.mem_iff.mp hb))) hzl ?_
    obtain ⟨c, hc⟩ := sortedHeap_at (vs := vs) (out := (sortVals (dataKind (sortingHeap (s1.heap.push (seqObj "list" vs.toArray 0)) s1.heap.objs.size vs) (bs'.map enc)) false vs vs).toArray) hat
    refine ⟨_, rfl, wpAny_pure ⟨_, rfl, h _ s1.heap.objs.size _ c bs' (fun b o e => ?_) g1 o1 hz hc pb ?_⟩⟩
    · show (sortedHeap _ _ _ _).get? b = some o
      rw [sortedHeap_old (keep b o e).1 (by
        have := Heap.lt_size (keep b o e).2
        exact this)]
      exact (keep b o e).2
    · exact sortVals_each (κ := dataKind _ (bs'.map enc)) (fun b => keyToks (enc b)) eb (each_of_map enc ((each_mem em2).mono fun _ _ ⟨⟨_, r⟩, hd⟩ => kind_some hd r))
end
def wSortSet (we : WE) : WE := fun Γ M Φ => we Γ M fun d M1 => ∃ ds, Now M1 d (.lst ds) ∧ ds.length < 64 ∧ SetAll ds ∧ ds.length < 64 ∧ (∀ d, d ∈ ds → D.plain d = true ∧ D.deep d ≤ 60) ∧ SortsTo (ds.map D.py) ∧ ∀ L : List D, L.Nodup → (∀ d, d ∈ L ↔ d ∈ ds) → Φ (.lst (L.mergeSort dle)) M1
section
variable {X : Cx} {e : Expr} {we : WE} {p p2 pos pos2 : Pos}
theorem d_sortedSet {k : Nat} (hl : X.mg "sorted" = none) (hs : X.mg "set" = none) (hr : Room k X.A) (he : PD X e we) (hc : X.calm = true := by rfl) (hg : Gl X "sorted" := by rfl) (hg2 : Gl X "set" := by rfl)
    (na : starEach [e] X.env = (false, eval e X.env) :: starEach [] X.env := by rfl) (na2 : starEach [.Call (.Name "set" p2) [e] [] pos2] X.env = (false, eval (.Call (.Name "set" p2) [e] [] pos2) X.env) :: starEach [] X.env := by rfl) :
    PD X (.Call (.Name "sorted" p) [.Call (.Name "set" p2) [e] [] pos2] [] pos) (wSortSet we) := by
  refine ⟨fun pins s σ H Q I ⟨Γ, M, P, Φ, sl, sa, h, q⟩ => ?_⟩
  refine Call_ (ld_blt I hg hl (u := .builtin "sorted") (by decide +kernel) ?_)
  refine PyProof.Rows.callWith_builtin1 (PyProof.Rows.args_cons (set_view (Ψ := fun ds M1 => ds.length < 64 ∧ (∀ d, d ∈ ds → D.plain d = true ∧ D.deep d ≤ 60) ∧ SortsTo (ds.map D.py) ∧ ∀ L : List D, L.Nodup → (∀ d, d ∈ L ↔ d ∈ ds) → Φ (.lst (L.mergeSort dle)) M1) hs hr he I sl sa ?_
    (fun ds M1 P1 H1 s1 a L L' ok SP ⟨few, pl, so, h1⟩ g I1 law R a1 a2 a3 a4 => PyProof.Rows.args_nil ?_) hc hg2 na) na2) na2 rfl
  · exact h
  have hdep : ∀ d, d ∈ L' → X.A.units + 2 + (D.py d).depth < cLine := fun d hd => by
    have h1 := (pl d ((a2 d).mp hd)).2
    have h2 := D.depth_py d
    have h3 := hr.un
    omega
  refine sorted_setL (enc := D.py) law R (I.ok.hd hc) a4 (so.sub fun d hd => ?_) hdep (fun v d ⟨x, rx, rd⟩ hd => Dp.reads I1 _ x v (dp_up g.sat.sub _ _ (D.rep_py d x (pl d ((a2 d).mp hd)).1 rd)) rx) fun s' l out c bs' k1 gg oo hle hget pb eo => ?_
  · obtain ⟨y, hy, rfl⟩ := List.mem_map.mp hd
    exact List.mem_map.mpr ⟨y, (a2 y).mp hy, rfl⟩
  obtain ⟨zs, hv, hz2⟩ := vals_of_each eo
  have fr : H1 l = none := I1.hok.fresh hle
  obtain ⟨_, fewL, _⟩ := law.out R
  have hl2 : zs.length ≤ sizeLine := by
    have h1 := hz2.length
    rw [List.length_mergeSort, pb.length_eq] at h1
    rw [sizeLine_eq]
    omega
  have g3 := Grow.laid (o := .lst zs) g.sat fr
  have J : Inv X pins σ (upd H1 l (.lst zs)) { s1 with heap := s'.heap, gens := s'.gens, drawn := s'.drawn, toks := s'.toks } :=
    I1.call (ch := []) (Un.laid k1 hle fr) (I1.hok.laid k1 hle ⟨hl2, out, c, hv, hget⟩) (by rw [gg]; exact I1.bare) (fun _ z => nomatch z)
  have es : s' = { s1 with heap := s'.heap, gens := s'.gens, drawn := s'.drawn, toks := s'.toks } := by
    cases s'
    cases s1
    cases oo
    rfl
  rw [es]
  exact ⟨.ref l, _, J, rfl, q _ _ (h1 bs' (pb.nodup_iff.mpr a1) fun d => by rw [pb.mem_iff]; exact a2 d) _ _ _ (g.trans g3) (.lst upd_same (hz2.up g3.le))⟩
end
end NF
namespace NF
open PySem L2

def wNeg (w : WE) : WE := fun Γ M Φ => w Γ M fun d M1 => ∃ i : Int, d = .int i ∧ Φ (.int (-i)) M1
section
variable {X : Cx} {a : Expr} {wa : WE} {pos : Pos}
theorem d_neg (ha : PD X a wa) : PD X (.UnaryOp .USub a pos) (wNeg wa) := PE.weak (pe_un un_neg ha) fun σ H Q ⟨Γ, M, P, Φ, s, a, h, q⟩ =>
  ⟨Γ, M, P, _, s, a, h, fun d M1 ⟨i, e, h1⟩ v P1 H1 g r => by
    subst e
    cases r
    exact ⟨i, rfl, (q.mk g).here g.sat h1 (.int _)⟩⟩
theorem RepAll.strs {K : PySem.W.Frag} {P : Hp} : ∀ {zs : List Str} {vs : List V}, RepAll K P vs (zs.map D.str) → vs = zs.map V.str
  | [], _, h => by cases h; rfl
  | n :: ns, _, h => by
    cases h with
    | cons h1 h2 => cases h1; rw [RepAll.strs h2]; rfl
def aJoin : D → List D → Mp → KD → Prop := fun x ds M Φ => ∃ (z : Str) (zs : List Str), x = .str z ∧ ds = [.lst (zs.map D.str)] ∧ (zs.map (·.length)).sum + zs.length * z.length ≤ 16777216 ∧ Φ (.str (Txt.join z zs)) M
theorem m_join : MtR X "str.join" (mOf X.K aJoin) := MtR.weak mt_join fun x vs H Q ⟨d, ds, M, P, Φ, r1, r2, s, ⟨z, zs, e1, e2, hl, h⟩, q⟩ => by
  subst e1 e2
  cases r1
  obtain ⟨v, rfl, rv⟩ := r2.one'
  cases rv with
  | @lst b us _ t al => exact ⟨z, b, zs, rfl, rfl, .inl (by rw [← RepAll.strs al]; exact SqL.of (s.sub.lst t)), hl, q.here s h (.str _)⟩
end
structure FunC (K : PySem.W.Frag) (x qual : Str) (st : Stmt) (f : Addr) (fd : FuncData) (c : Addr) : Prop where
  ex : ∃ (oc : Value) (od : Option Addr) (kV doc pm : Value) (an : Option Addr) (ct : Value) (osl : Array (Option Value)),
    fd = PySem.W.fnOf x qual (defArgs st) (defBody st) (defScope st) .none kV doc pm an (.ref c) ct ∧ K.lookup f = some ⟨oc, od, .func fd, osl⟩ ∧ PySem.W.codeIn K (.ref c) qual = true
section
variable {P : Program} {w : World} {K : PySem.W.Frag} {mg : Str → Option Value} {base : Heap}
theorem def_okC {x qual : Str} {st : Stmt} {f c : Addr} {fd : FuncData} {N ps : List Str} {k : Nat} {sp : ASp} {b : WS} (F : FunC K x qual st f fd c) (S : FnScope N ps (defScope st)) (len : ∀ ds M Φ, sp ds M Φ → ds.length = ps.length)
    (body : ∀ (A : Around) (outer : List Env) (s : Shared) (H : Hp) (E : XK), Room k (A.deeper (PyProof.Rows.envOfC qual (defScope st) s.heap.objs.size f (.ref c))) → PDB (cxOf CX0 P w K mg base N qual (defScope st) f (.ref c) A outer s H E).nox (defBody st) b)
    (reads : ∀ ds M Φ, sp ds M Φ → b (ends Φ) (startD N ds) M) : FnOk P w K mg base CX0 (k + 1) f fd ps (spOf K sp) := by
  obtain ⟨oc, od, kV, doc, pm, an, ct, osl, rfl, lk, hcd⟩ := F.ex
  refine fn_of lk hcd S (fun vs H Q E ⟨ds, M, P', Φ, r, s, h, q⟩ => ?_) fun A outer s H vs Q E hr ⟨ds, M, P', Φ, r, sa, h, q⟩ => ?_
  · rw [r.length]
    exact len ds M Φ h
  · refine ⟨_, (body A outer s H E hr).nox, startD N ds, M, P', ends Φ, slots_start r, sa, reads ds M Φ h, ⟨fun Γ' M' h' σ' P1 H1 g s' => ?_, fun d M' h' v P1 H1 g r' => ?_, fun _ _ h' => h'.elim, fun _ _ h' => h'.elim⟩⟩
    · exact Fin.go q h' g .non
    · exact Fin.go q h' g r'
end
/-- a method of the text -/
structure Dm (K : PySem.W.Frag) (x qual : Str) (st : Stmt) (ps : List Str) (f : Addr) (fd : FuncData) : Prop where
  F : Fun K x qual st f fd
  b : Binds K fd ps []
section
variable {X : Cx} {pos : Pos}
theorem d_globI {x : Str} {i : Int} {t : Tok} (hg : Gl X x) (hm : X.mg x = some (.int i t)) (hd : (x == ("__debug__" : Str)) = false := by decide) : PD X (.Name x pos) (wC (.int i)) := d_glob (v := .int i) hg hm ⟨t, rfl⟩ (fun _ _ => .int i) hd
theorem d_globS {x z : Str} {t : Tok} (hg : Gl X x) (hm : X.mg x = some (.str z t)) (hd : (x == ("__debug__" : Str)) = false := by decide) : PD X (.Name x pos) (wC (.str z)) := d_glob (v := .str z) hg hm ⟨t, rfl⟩ (fun _ _ => .str z) hd
theorem d_globR {x : Str} {a : Addr} (hg : Gl X x) (hm : X.mg x = some (.ref a)) (hd : (x == ("__debug__" : Str)) = false := by decide) : PD X (.Name x pos) (wC (.op (.ref a))) := d_glob (v := .ref a) hg hm rfl (fun _ _ => .op _) hd
end
end NF
namespace NF
open PySem L2

section
variable {M : Mp}
theorem now_non {d : D} : Now M .non d ↔ d = .non := ⟨fun h => by cases h; rfl, fun h => by subst h; exact .self _⟩
theorem now_bl {b : Bool} {d : D} : Now M (.bl b) d ↔ d = .bl b := ⟨fun h => by cases h; rfl, fun h => by subst h; exact .self _⟩
theorem now_int {i : Int} {d : D} : Now M (.int i) d ↔ d = .int i := ⟨fun h => by cases h; rfl, fun h => by subst h; exact .self _⟩
theorem now_str {x : Str} {d : D} : Now M (.str x) d ↔ d = .str x := ⟨fun h => by cases h; rfl, fun h => by subst h; exact .self _⟩
theorem now_tup {ds : List D} {d : D} : Now M (.tup ds) d ↔ d = .tup ds := ⟨fun h => by cases h; rfl, fun h => by subst h; exact .self _⟩
theorem now_lst {ds : List D} {d : D} : Now M (.lst ds) d ↔ d = .lst ds := ⟨fun h => by cases h; rfl, fun h => by subst h; exact .self _⟩
theorem eqk_non : D.eqOk .non := by simp [D.eqOk, D.plain, D.deep]
theorem eqk_int {i : Int} : D.eqOk (.int i) := by simp [D.eqOk, D.plain, D.deep]
theorem eqk_str {x : Str} (h : PyData.strOk x = true) : D.eqOk (.str x) := by simp [D.eqOk, D.plain, D.deep, h]
end
/-- a part of the way that hands on d and leaves all as it is -/
def Gives (w : Mp → KD → Prop) (M : Mp) (d : D) : Prop := ∀ Φ : KD, Φ d M → w M Φ
theorem both {c : Bool} {A B : Prop} (h1 : c = true → A) (h2 : c = false → B) : (c = true → A) ∧ (c = false → B) := ⟨h1, h2⟩
theorem isT {c : Bool} {A B : Prop} (h : c = true) (a : A) : (c = true → A) ∧ (c = false → B) := ⟨fun _ => a, fun z => by rw [h] at z; cases z⟩
theorem isF {c : Bool} {A B : Prop} (h : c = false) (b : B) : (c = true → A) ∧ (c = false → B) := ⟨fun z => (by rw [h] at z; cases z), fun _ => b⟩
/-- a comprehension that writes nothing -/
theorem lcP {α : Type} {S : Mp → Prop} {T : Tg} {wc : WT} {we : WE} {G : Ctx} {M : Mp} {Φ : KD} (xs : List α) (enc : α → D) (p : α → Bool) (g : α → D) (hS : S M) (hl : xs.length ≤ sizeLine)
    (step : ∀ x, x ∈ xs → ∃ Γ2, T.put (enc x) G = some Γ2 ∧ (∀ Ψ : Bool → Mp → Prop, Ψ (p x) M → wc Γ2 M Ψ) ∧ (p x = true → ∀ Φ' : KD, Φ' (g x) M → we Γ2 M Φ')) (fin : Φ (.lst ((xs.filter p).map g)) M) :
    ∃ J : Nat → List D → Mp → Prop, J 0 [] M ∧ (∀ i acc M', J i acc M' → S M') ∧
      (∀ i d acc M', (xs.map enc)[i]? = some d → J i acc M' → ∃ Γ2, T.put d G = some Γ2 ∧ wc Γ2 M' fun b M2 => (b = true → we Γ2 M2 fun y M3 => acc.length < sizeLine ∧ J (i + 1) (acc ++ [y]) M3) ∧ (b = false → J (i + 1) acc M2)) ∧ ∀ acc M', J (xs.map enc).length acc M' → Φ (.lst acc) M' := by
  refine ⟨fun i acc M' => M' = M ∧ acc = ((xs.take i).filter p).map g, ⟨rfl, rfl⟩, fun i acc M' h => by rw [h.1]; exact hS, ?_, fun acc M' h => ?_⟩
  · rintro i d acc M' hd ⟨rfl, rfl⟩
    rw [List.getElem?_map] at hd
    obtain ⟨x, hx, rfl⟩ := Option.map_eq_some_iff.mp hd
    have hi : i < xs.length := (List.getElem?_eq_some_iff.mp hx).1
    obtain ⟨Γ2, e, hc, he⟩ := step x (List.mem_of_getElem? hx)
    have tk : xs.take (i + 1) = xs.take i ++ [x] := by rw [List.take_succ, hx]; rfl
    refine ⟨Γ2, e, hc _ (both (fun hp => he hp _ ⟨?_, rfl, ?_⟩) fun hp => ⟨rfl, ?_⟩)⟩
    · have h1 : ((xs.take i).filter p).length ≤ (xs.take i).length := List.length_filter_le ..
      have h2 : (xs.take i).length = i := by rw [List.length_take]; omega
      rw [List.length_map]
      omega
    · rw [tk, List.filter_append, List.map_append]
      simp [hp]
    · rw [tk, List.filter_append, List.map_append]
      simp [hp]
  · obtain ⟨rfl, rfl⟩ := h
    rw [List.length_map, List.take_length]
    exact fin
/-- a for-loop with an invariant over typed things -/
theorem forP {α : Type} {S : Mp → Prop} {T : Tg} {wb : WS} {R : AE} {Γ : Ctx} {M : Mp} (xs : List α) (enc : α → D) (J : Nat → Ctx → Mp → Prop) (h0 : J 0 Γ M) (hS : ∀ i Γ' M', J i Γ' M' → S M')
    (step : ∀ i x Γ' M', xs[i]? = some x → J i Γ' M' → ∃ Γ2, T.put (enc x) Γ' = some Γ2 ∧ wb { R with nx := J (i + 1), ct := J (i + 1), bk := R.nx } Γ2 M') (fin : ∀ Γ' M', J xs.length Γ' M' → R.nx Γ' M') :
    ∃ J : Nat → Ctx → Mp → Prop, J 0 Γ M ∧ (∀ i Γ' M', J i Γ' M' → S M') ∧ (∀ i d Γ' M', (xs.map enc)[i]? = some d → J i Γ' M' → ∃ Γ2, T.put d Γ' = some Γ2 ∧ wb { R with nx := J (i + 1), ct := J (i + 1), bk := R.nx } Γ2 M') ∧ ∀ Γ' M', J (xs.map enc).length Γ' M' → R.nx Γ' M' := by
  refine ⟨J, h0, hS, fun i d Γ' M' hd hj => ?_, fun Γ' M' h => fin Γ' M' (by rw [List.length_map] at h; exact h)⟩
  rw [List.getElem?_map] at hd
  obtain ⟨x, hx, rfl⟩ := Option.map_eq_some_iff.mp hd
  exact step i x Γ' M' hx hj
theorem atI_nat {α : Type} {xs : List α} {i : Nat} : atI xs (i : Int) = xs[i]? := by
  unfold atI ixN
  rw [if_pos (Int.natCast_nonneg i)]
  by_cases h : i < xs.length
  · rw [if_pos (by omega)]; simp
  · rw [if_neg (by omega)]; simp; omega
theorem atI_0 {α : Type} {xs : List α} : atI xs 0 = xs[0]? := atI_nat (i := 0)
theorem atI_1 {α : Type} {xs : List α} : atI xs 1 = xs[1]? := atI_nat (i := 1)
theorem atI_2 {α : Type} {xs : List α} : atI xs 2 = xs[2]? := atI_nat (i := 2)
theorem atI_3 {α : Type} {xs : List α} : atI xs 3 = xs[3]? := atI_nat (i := 3)
theorem atI_4 {α : Type} {xs : List α} : atI xs 4 = xs[4]? := atI_nat (i := 4)
theorem atI_last {α : Type} {xs : List α} : atI xs (-1) = xs.getLast? := by
  unfold atI ixN
  rw [if_neg (by decide)]
  cases xs with
  | nil => rfl
  | cons x xs =>
    rw [if_pos (by simp; omega)]
    rw [List.getLast?_eq_getElem?]
    show (x :: xs)[(-1 + ((x :: xs).length : Int)).toNat]? = _
    congr 1
    simp
    omega
theorem cut_nat {ds : List D} (n : Nat) : cutD ds none (some (n : Int)) = ds.take n := by
  unfold cutD
  rw [HT.sIx_none, HT.sIx_nat]
  simp [List.take_eq_take_iff]
theorem cut_2 {ds : List D} : cutD ds none (some 2) = ds.take 2 := cut_nat 2
/-- a comprehension over typed things that writes nothing -/
theorem lc_pure {α : Type} {wi : WI} {T : Tg} {wc : WT} {we : WE} {own : List Nat} {Γ : Ctx} {M : Mp} {Φ : KD} (xs : List α) (enc : α → D) (p : α → Bool) (g : α → D) (hl : xs.length ≤ sizeLine)
    (hi : ∀ Ψ : List D → (Mp → Prop) → Mp → Prop, (∀ S : Mp → Prop, S M → Ψ (xs.map enc) S M) → wi Γ M Ψ)
    (step : ∀ x, x ∈ xs → ∃ Γ2, T.put (enc x) (gwipe Γ own) = some Γ2 ∧ (∀ Ψ : Bool → Mp → Prop, Ψ (p x) M → wc Γ2 M Ψ) ∧ (p x = true → ∀ Φ' : KD, Φ' (g x) M → we Γ2 M Φ')) (fin : Φ (.lst ((xs.filter p).map g)) M) : wLc wi T wc we own Γ M Φ :=
  hi _ fun S hS => lcP xs enc p g hS hl step fin
theorem lc_all {α : Type} {wi : WI} {T : Tg} {we : WE} {own : List Nat} {Γ : Ctx} {M : Mp} {Φ : KD} (xs : List α) (enc : α → D) (g : α → D) (hl : xs.length ≤ sizeLine)
    (hi : ∀ Ψ : List D → (Mp → Prop) → Mp → Prop, (∀ S : Mp → Prop, S M → Ψ (xs.map enc) S M) → wi Γ M Ψ)
    (step : ∀ x, x ∈ xs → ∃ Γ2, T.put (enc x) (gwipe Γ own) = some Γ2 ∧ ∀ Φ' : KD, Φ' (g x) M → we Γ2 M Φ') (fin : Φ (.lst (xs.map g)) M) : wLc wi T wYes we own Γ M Φ :=
  lc_pure xs enc (fun _ => true) g hl hi (fun x hx => let ⟨Γ2, e, h⟩ := step x hx; ⟨Γ2, e, fun Ψ h => h, fun _ => h⟩) (by rw [List.filter_eq_self.mpr fun _ _ => rfl]; exact fin)
/-- a for-loop over typed things -/
theorem for_typed {α : Type} {wi : WI} {T : Tg} {wb : WS} {R : AE} {Γ : Ctx} {M M1 : Mp} (xs : List α) (enc : α → D) (S : Mp → Prop) (J : Nat → Ctx → Mp → Prop) (hi : ∀ Ψ : List D → (Mp → Prop) → Mp → Prop, Ψ (xs.map enc) S M1 → wi Γ M Ψ)
    (h0 : J 0 Γ M1) (hS : ∀ i Γ' M', J i Γ' M' → S M') (step : ∀ i x Γ' M', xs[i]? = some x → J i Γ' M' → ∃ Γ2, T.put (enc x) Γ' = some Γ2 ∧ wb { R with nx := J (i + 1), ct := J (i + 1), bk := R.nx } Γ2 M') (fin : ∀ Γ' M', J xs.length Γ' M' → R.nx Γ' M') :
    wFor wi T wb R Γ M := hi _ (forP xs enc J h0 hS step fin)
theorem yesP {p A B : Prop} (h : p) (a : A) : (p → A) ∧ (¬ p → B) := ⟨fun _ => a, fun z => absurd h z⟩
theorem noP {p A B : Prop} (h : ¬ p) (b : B) : (p → A) ∧ (¬ p → B) := ⟨fun z => absurd z h, fun _ => b⟩
theorem eqb_int {i j : Int} : D.eqb (.int i) (.int j) = decide (i = j) := by unfold D.eqb; simp
theorem eqb_str {i j : Str} : D.eqb (.str i) (.str j) = decide (i = j) := by unfold D.eqb; simp
section
variable {M : Mp} {Φ : KD}
theorem ix_tup {ds : List D} {i : Int} : aIx (.tup ds) (.int i) M Φ ↔ ∃ d, atI ds i = some d ∧ Φ d M := Iff.rfl
theorem ix_lst {ds : List D} {i : Int} : aIx (.lst ds) (.int i) M Φ ↔ ∃ d, atI ds i = some d ∧ Φ d M := Iff.rfl
theorem ix_str {z : Str} {i : Int} : aIx (.str z) (.int i) M Φ ↔ z.length ≤ sizeLine ∧ ∃ c, atI z.cps.toList i = some c ∧ Φ (.str ⟨#[c]⟩) M := Iff.rfl
theorem ix_scr {ns : List Int} {i : Int} : aIx (.scr ns) (.int i) M Φ ↔ ∃ n, atI ns i = some n ∧ Φ (.int n) M := Iff.rfl
theorem ix_op {a : Addr} {i : Int} : aIx (.op (.ref a)) (.int i) M Φ ↔ ∃ ds d, (a, MO.lst ds) ∈ M ∧ atI ds i = some d ∧ Φ d M := Iff.rfl
theorem len_lst {xs : List D} : aLen [.lst xs] M Φ ↔ Φ (.int xs.length) M := Iff.rfl
theorem len_tup {xs : List D} : aLen [.tup xs] M Φ ↔ Φ (.int xs.length) M := Iff.rfl
theorem len_scr {xs : List Int} : aLen [.scr xs] M Φ ↔ Φ (.int xs.length) M := Iff.rfl
theorem len_str {z : Str} : aLen [.str z] M Φ ↔ z.length ≤ sizeLine ∧ Φ (.int z.length) M := Iff.rfl
theorem len_op {a : Addr} : aLen [.op (.ref a)] M Φ ↔ ∃ xs, (a, MO.lst xs) ∈ M ∧ Φ (.int xs.length) M := Iff.rfl
theorem add_int {i j : Int} : aAdd (.int i) (.int j) M Φ ↔ Φ (.int (i + j)) M := Iff.rfl
theorem add_str {s t : Str} : aAdd (.str s) (.str t) M Φ ↔ s.length + t.length ≤ sizeLine ∧ Φ (.str (s ++ t)) M := Iff.rfl
theorem add_tup {s t : List D} : aAdd (.tup s) (.tup t) M Φ ↔ s.length + t.length ≤ sizeLine ∧ Φ (.tup (s ++ t)) M := Iff.rfl
theorem add_lst {s t : List D} : aAdd (.lst s) (.lst t) M Φ ↔ s.length + t.length ≤ sizeLine ∧ Φ (.lst (s ++ t)) M := Iff.rfl
theorem sl_tup {ds : List D} {lo hi : Option Int} : aSl (.tup ds) lo hi M Φ ↔ Φ (.tup (cutD ds lo hi)) M := Iff.rfl
theorem sl_lst {ds : List D} {lo hi : Option Int} : aSl (.lst ds) lo hi M Φ ↔ Φ (.lst (cutD ds lo hi)) M := Iff.rfl
theorem sl_op {a : Addr} {lo hi : Option Int} : aSl (.op (.ref a)) lo hi M Φ ↔ ∃ ds, (a, MO.lst ds) ∈ M ∧ Φ (.lst (cutD ds lo hi)) M := Iff.rfl
theorem tru_bl {b k : Bool} : TruD M (.bl b) k ↔ k = b := Iff.rfl
theorem tru_non {k : Bool} : TruD M .non k ↔ k = false := Iff.rfl
theorem tru_int {i : Int} {k : Bool} : TruD M (.int i) k ↔ k = (i != 0) := Iff.rfl
theorem tru_lst {ds : List D} {k : Bool} : TruD M (.lst ds) k ↔ k = !ds.isEmpty := Iff.rfl
theorem tru_tup {ds : List D} {k : Bool} : TruD M (.tup ds) k ↔ k = !ds.isEmpty := Iff.rfl
theorem tru_scr {ds : List Int} {k : Bool} : TruD M (.scr ds) k ↔ k = !ds.isEmpty := Iff.rfl
end
theorem lt_int {M : Mp} {Φ : KD} {i j : Int} : aLt (.int i) (.int j) M Φ ↔ Φ (.bl (decide (i < j))) M := by
  unfold aLt
  constructor
  · rintro (⟨a, b, e1, e2, h⟩ | ⟨a, b, e1, e2, h⟩)
    · cases e1; cases e2; exact h
    · cases e1
  · exact fun h => .inl ⟨i, j, rfl, rfl, h⟩
/-- d[k] of the module's own dict -/
theorem ix_size {K : PySem.W.Frag} {w : World} {a : Addr} {es : Array DictEntry} {n : Nat} {z : Str} {i : Int} {t : Tok} {M : Mp} {Φ : KD} (Dd : KDict K w a es n) (hz : PySem.W.nsIn K a z = some (some (.int i t))) (h : Φ (.int i) M) : aIxK K w (.op (.ref a)) (.str z) M Φ :=
  ⟨a, z, .int i, .int i, rfl, rfl, ⟨es, n, _, Dd.at_, Dd.lit, hz, ⟨t, rfl⟩⟩, fun _ => .int i, h⟩
theorem size_le {n m : Nat} (h : n ≤ m) (k : m ≤ 1000000 := by decide) : n ≤ sizeLine := by
  rw [sizeLine_eq]
  omega
theorem small_sign {c : Nat} (h1 : 97 ≤ c) (h2 : c ≤ 122) : c ∈ (Str.ofString "abcdefghijklmnopqrstuvwxyz").cps.toList := by
  have : ∀ c, c < 123 → 97 ≤ c → c ∈ (Str.ofString "abcdefghijklmnopqrstuvwxyz").cps.toList := by decide +kernel
  exact this c (by omega) h1
end NF
namespace NF
open PySem L2 PySem.W PyProof.Rows

theorem sort_eq {α : Type} {le : α → α → Bool} (tr : ∀ a b c : α, le a b = true → le b c = true → le a c = true) (tot : ∀ a b : α, (le a b || le b a) = true) {l₁ l₂ : List α} (p : l₁.Perm l₂) (anti : ∀ a b, a ∈ l₁ → b ∈ l₁ → le a b = true → le b a = true → a = b) : l₁.mergeSort le = l₂.mergeSort le := by
  refine List.Perm.eq_of_pairwise (le := fun a b => le a b = true) (fun a b ha hb => ?_) (List.pairwise_mergeSort tr tot l₁) (List.pairwise_mergeSort tr tot l₂) ((List.mergeSort_perm l₁ le).trans (p.trans (List.mergeSort_perm l₂ le).symm))
  exact anti a b ((List.mergeSort_perm l₁ le).mem_iff.mp ha) (p.mem_iff.mpr ((List.mergeSort_perm l₂ le).mem_iff.mp hb))
def ple (a b : PyData) : Bool := !dataLt b a
theorem dataLe_eq {β : Type} (k : β → PyData) (a b : β) : dataLe false k a b = ple (k a) (k b) := by
  unfold dataLe sortLe ple dataLt
  rfl
theorem ple_trans (a b c : PyData) (h1 : ple a b = true) (h2 : ple b c = true) : ple a c = true := by
  unfold ple at *
  simp only [Bool.not_eq_true'] at *
  cases h : dataLt c a with
  | false => rfl
  | true =>
    rcases PyProof.Rows.lex_negTrans (O := itemOrd) _ (keyToks b) _ h with z | z
    · exact absurd z (by show ¬ dataLt c b = true; rw [h2]; decide)
    · exact absurd z (by show ¬ dataLt b a = true; rw [h1]; decide)
theorem ple_total (a b : PyData) : (ple a b || ple b a) = true := by
  unfold ple
  cases h : dataLt b a with
  | false => rfl
  | true =>
    cases h2 : dataLt a b with
    | false => rfl
    | true =>
      have := PyProof.Rows.lex_trans (O := itemOrd) _ _ _ h h2
      rw [PyProof.Rows.lex_irrefl] at this
      cases this
theorem ple_anti {a b : PyData} (h1 : ple a b = true) (h2 : ple b a = true) : keyToks a = keyToks b := by
  unfold ple at *
  simp only [Bool.not_eq_true'] at *
  exact PyProof.Rows.lex_total (O := itemOrd) _ _ h2 h1

abbrev Ky := Int × Int
abbrev Ky.d (k : Ky) : D := .tup [.int k.1, .int k.2]
def kle (a b : Ky) : Bool := !decide (b.1 < a.1 ∨ (b.1 = a.1 ∧ b.2 < a.2))
theorem kle_iff {a b : Ky} : kle a b = true ↔ a.1 < b.1 ∨ (a.1 = b.1 ∧ a.2 ≤ b.2) := by
  unfold kle
  simp only [Bool.not_eq_true', decide_eq_false_iff_not]
  omega
theorem kle_trans (a b c : Ky) (h1 : kle a b = true) (h2 : kle b c = true) : kle a c = true := by
  rw [kle_iff] at *
  omega
theorem kle_total (a b : Ky) : (kle a b || kle b a) = true := by
  rw [Bool.or_eq_true, kle_iff, kle_iff]
  omega
theorem kle_anti {a b : Ky} (h1 : kle a b = true) (h2 : kle b a = true) : a = b := by
  rw [kle_iff] at *
  exact Prod.ext (by omega) (by omega)
theorem py_ky (k : Ky) : D.py (Ky.d k) = .tuple [.int k.1, .int k.2] := by simp [D.py, D.pyAll]
theorem dle_ky (a b : Ky) : dle (Ky.d a) (Ky.d b) = kle a b := by
  unfold dle
  rw [dataLe_eq, py_ky, py_ky]
  unfold ple kle
  rw [dataLt_ii]

inductive Dd where
  | new (k : Ky) (n : Str) (w : Int)
  | name (k a : Ky) (n : Str)
  | worth (k a : Ky) (w : Int)
  | drop (k a : Ky)
noncomputable instance : DecidableEq Dd := fun a b => Classical.propDecidable (a = b)
def Dd.key : Dd → Ky
  | .new k _ _ => k
  | .name k _ _ => k
  | .worth k _ _ => k
  | .drop k _ => k
def Dd.word : Dd → Str
  | .new _ _ _ => "new"
  | .name _ _ _ => "name"
  | .worth _ _ _ => "worth"
  | .drop _ _ => "drop"
def Dd.tl : Dd → List D
  | .new _ n w => [.str n, .int w]
  | .name _ a n => [Ky.d a, .str n]
  | .worth _ a w => [Ky.d a, .int w]
  | .drop _ a => [Ky.d a]
def Dd.d (x : Dd) : D := .tup (.int x.key.1 :: .int x.key.2 :: .str x.word :: x.tl)
/-- the row that a deed is about, unless it makes one -/
def Dd.at_ : Dd → Option Ky
  | .new _ _ _ => none
  | .name _ a _ => some a
  | .worth _ a _ => some a
  | .drop _ a => some a
def NameOk (x : Str) : Prop := 1 ≤ x.length ∧ x.length ≤ 4 ∧ ∀ c, c ∈ x.cps.toList → 97 ≤ c ∧ c ≤ 122
def KeyOk (k : Ky) : Prop := 1 ≤ k.1 ∧ k.1 ≤ 999 ∧ 1 ≤ k.2 ∧ k.2 ≤ 5
def WorthOk (w : Int) : Prop := 0 ≤ w ∧ w ≤ 99
def klt (a b : Ky) : Prop := a.1 < b.1 ∨ (a.1 = b.1 ∧ a.2 < b.2)
def Dd.ok : Dd → Prop
  | .new k n w => KeyOk k ∧ NameOk n ∧ WorthOk w
  | .name k a n => KeyOk k ∧ KeyOk a ∧ klt a k ∧ NameOk n
  | .worth k a w => KeyOk k ∧ KeyOk a ∧ klt a k ∧ WorthOk w
  | .drop k a => KeyOk k ∧ KeyOk a ∧ klt a k
theorem Dd.ok.key {x : Dd} (h : x.ok) : KeyOk x.key := by
  cases x <;> exact h.1
/-- deeds that can stand together -/
structure Good (ds : List Dd) : Prop where
  ok : ∀ x, x ∈ ds → x.ok
  one : ∀ x y, x ∈ ds → y ∈ ds → x.key = y.key → x = y
  few : ds.length < 64
theorem Good.sub {ds es : List Dd} (g : Good ds) (h : ∀ x, x ∈ es → x ∈ ds) (l : es.length ≤ ds.length) : Good es :=
  ⟨fun x hx => g.ok x (h x hx), fun x y hx hy => g.one x y (h x hx) (h y hy), Nat.lt_of_le_of_lt l g.few⟩
theorem nameOk_str {x : Str} (h : NameOk x) : PyData.strOk x = true := by
  unfold PyData.strOk
  rw [Array.all_eq_true]
  intro i hi
  have := h.2.2 x.cps[i] (by simp)
  simp
  omega
theorem py_dd (x : Dd) : D.py x.d = .tuple (.int x.key.1 :: .int x.key.2 :: D.pyAll (.str x.word :: x.tl)) := by simp [Dd.d, D.py, D.pyAll]
theorem dle_dd {x y : Dd} (h : x.key = y.key → x = y) : dle x.d y.d = kle x.key y.key := by
  by_cases e : x.key = y.key
  · have := h e
    subst this
    have t1 : dle x.d x.d = true := by
      unfold dle
      rw [dataLe_eq]
      have := ple_total (D.py x.d) (D.py x.d)
      simpa using this
    have t2 : kle x.key x.key = true := by rw [kle_iff]; omega
    rw [t1, t2]
  · unfold dle
    rw [dataLe_eq, py_dd, py_dd]
    unfold ple kle
    congr 1
    rw [dataLt_tuple]
    by_cases e1 : y.key.1 = x.key.1
    · rw [dataLt_all_yes (by simp [alike]) (by simp [PyData.eqv, e1])]
      have e2 : y.key.2 ≠ x.key.2 := fun z => e (Prod.ext e1.symm z.symm)
      rw [dataLt_all_no (by simp [alike]) (by simp [PyData.eqv, e2]), dataLt_int]
      simp [e1]
    · rw [dataLt_all_no (by simp [alike]) (by simp [PyData.eqv, e1]), dataLt_int]
      simp [e1]

noncomputable def uniq (ds : List Dd) : List Dd := ds.foldl (fun acc x => if x ∈ acc then acc else acc ++ [x]) []
theorem uniq_go : ∀ (ds acc : List Dd), acc.Nodup → (ds.foldl (fun acc x => if x ∈ acc then acc else acc ++ [x]) acc).Nodup ∧ ∀ x, x ∈ ds.foldl (fun acc x => if x ∈ acc then acc else acc ++ [x]) acc ↔ x ∈ acc ∨ x ∈ ds
  | [], acc, h => ⟨h, fun x => by simp⟩
  | d :: ds, acc, h => by
    simp only [List.foldl_cons]
    by_cases c : d ∈ acc
    · rw [if_pos c]
      obtain ⟨h1, h2⟩ := uniq_go ds acc h
      refine ⟨h1, fun x => ?_⟩
      rw [h2 x, List.mem_cons]
      constructor
      · rintro (z | z)
        · exact .inl z
        · exact .inr (.inr z)
      · rintro (z | z | z)
        · exact .inl z
        · subst z; exact .inl c
        · exact .inr z
    · rw [if_neg c]
      obtain ⟨h1, h2⟩ := uniq_go ds (acc ++ [d]) (by rw [List.nodup_append]; exact ⟨h, by simp, fun a ha b hb => by rw [List.mem_singleton.mp hb]; exact fun e => c (e ▸ ha)⟩)
      refine ⟨h1, fun x => ?_⟩
      rw [h2 x, List.mem_append, List.mem_singleton, List.mem_cons]
      exact or_assoc
theorem uniq_nodup (ds : List Dd) : (uniq ds).Nodup := (uniq_go ds [] List.nodup_nil).1
theorem mem_uniq {ds : List Dd} {x : Dd} : x ∈ uniq ds ↔ x ∈ ds := by
  have := (uniq_go ds [] List.nodup_nil).2 x
  unfold uniq
  rw [this]
  simp
theorem uniq_same {ds : List Dd} (h : ds.Nodup) : uniq ds = ds := by
  have go : ∀ (l acc : List Dd), (acc ++ l).Nodup → l.foldl (fun acc x => if x ∈ acc then acc else acc ++ [x]) acc = acc ++ l := by
    intro l
    induction l with
    | nil => intro acc _; simp
    | cons d l ih =>
      intro acc h
      simp only [List.foldl_cons]
      have c : d ∉ acc := fun z => (List.nodup_append.mp h).2.2 d z d (by simp) rfl
      rw [if_neg c, ih (acc ++ [d]) (by simpa using h)]
      simp
  have := go ds [] (by simpa using h)
  simpa [uniq] using this
noncomputable def ordd (ds : List Dd) : List Dd := (uniq ds).mergeSort fun a b => kle a.key b.key
theorem ordd_perm (ds : List Dd) : (ordd ds).Perm (uniq ds) := List.mergeSort_perm _ _
theorem mem_ordd {ds : List Dd} {x : Dd} : x ∈ ordd ds ↔ x ∈ ds := (ordd_perm ds).mem_iff.trans mem_uniq
theorem ordd_nodup (ds : List Dd) : (ordd ds).Nodup := (ordd_perm ds).nodup_iff.mpr (uniq_nodup ds)
theorem ordd_sorted (ds : List Dd) : (ordd ds).Pairwise fun a b => kle a.key b.key = true := List.pairwise_mergeSort (le := fun a b : Dd => kle a.key b.key) (fun a b c => kle_trans a.key b.key c.key) (fun a b => kle_total a.key b.key) _
theorem perm_of_mem {α : Type} [DecidableEq α] {l m : List α} (h1 : l.Nodup) (h2 : m.Nodup) (h : ∀ x, x ∈ l ↔ x ∈ m) : l.Perm m := by
  rw [List.perm_iff_count]
  intro a
  by_cases c : a ∈ l
  · rw [List.Nodup.count h1, List.Nodup.count h2, if_pos c, if_pos ((h a).mp c)]
  · rw [List.Nodup.count h1, List.Nodup.count h2, if_neg c, if_neg fun z => c ((h a).mpr z)]
/-- in whatever turn they are told -/
theorem ordd_eq {ds es : List Dd} (g : Good ds) (h : ∀ x, x ∈ ds ↔ x ∈ es) : ordd ds = ordd es := by
  refine sort_eq (le := fun a b : Dd => kle a.key b.key) (fun a b c => kle_trans a.key b.key c.key) (fun a b => kle_total a.key b.key) (perm_of_mem (uniq_nodup ds) (uniq_nodup es) fun x => by rw [mem_uniq, mem_uniq]; exact h x) fun a b ha hb h1 h2 => ?_
  exact g.one a b (mem_uniq.mp ha) (mem_uniq.mp hb) (kle_anti h1 h2)
theorem Good.nodup_len {ds : List Dd} : (uniq ds).length ≤ ds.length := nodup_le (uniq_nodup ds) fun x hx => mem_uniq.mp hx
theorem Good.ordd {ds : List Dd} (g : Good ds) : Good (ordd ds) := g.sub (fun x hx => mem_ordd.mp hx) (by rw [(ordd_perm ds).length_eq]; exact Good.nodup_len)
theorem ordd_ordd {ds : List Dd} (g : Good ds) : ordd (ordd ds) = ordd ds := (ordd_eq g.ordd fun x => mem_ordd)
end NF
namespace NF
open PySem L2 PySem.W PyProof.Rows

structure Rc where
  key : Ky
  name : Str
  since : Ky
  worth : Int
  gone : Bool
noncomputable def upd1 (r : Rc) (x : Dd) : Rc := match x with
  | .new _ _ _ => r
  | .name k a n => if a = r.key then { r with since := (if r.name = n then r.since else k), name := n } else r
  | .worth _ a w => if a = r.key then { r with worth := w } else r
  | .drop _ a => if a = r.key then { r with gone := true } else r
def made : Dd → Option Rc
  | .new k n w => some ⟨k, n, k, w, false⟩
  | _ => none
theorem upd1_key (r : Rc) (x : Dd) : (upd1 r x).key = r.key := by
  cases x <;> simp only [upd1] <;> (try split) <;> rfl
theorem fold_key (r : Rc) : ∀ l : List Dd, (l.foldl upd1 r).key = r.key := by
  intro l
  induction l generalizing r with
  | nil => rfl
  | cons x l ih => rw [List.foldl_cons, ih, upd1_key]
theorem upd1_not {r : Rc} {x : Dd} (h : x.at_ ≠ some r.key) : upd1 r x = r := by
  cases x <;> simp only [upd1, Dd.at_] at * <;> (try rw [if_neg fun z => h (by rw [z])])
/-- only the deeds about a row change it -/
theorem fold_mine (r : Rc) (l : List Dd) : (l.filter fun x => decide (x.at_ = some r.key)).foldl upd1 r = l.foldl upd1 r := by
  induction l generalizing r with
  | nil => rfl
  | cons x l ih =>
    rw [List.filter_cons]
    by_cases h : x.at_ = some r.key
    · rw [if_pos (by simpa using h), List.foldl_cons, List.foldl_cons]
      have := ih (upd1 r x)
      rw [upd1_key] at this
      exact this
    · rw [if_neg (by simpa using h), List.foldl_cons, upd1_not h]
      exact ih r
/-- the rows by deeds that are in order -/
noncomputable def rowsAt (l : List Dd) (r : Rc) : Rc := l.foldl upd1 r
noncomputable def rows (ds : List Dd) : List Rc := ((ordd ds).filterMap made).map (rowsAt (ordd ds))
abbrev rkey (r : Rc) : PyData := .tuple [.str r.name, .tuple [.int r.since.1, .int r.since.2]]
def rle (a b : Rc) : Bool := ple (rkey a) (rkey b)
noncomputable def there (ds : List Dd) : List Rc := ((rows ds).filter fun r => !r.gone).mergeSort rle
theorem made_key {x : Dd} {r : Rc} (h : made x = some r) : r.key = x.key ∧ r.since = x.key ∧ x.at_ = none := by
  cases x <;> simp [made] at h
  subst h
  exact ⟨rfl, rfl, rfl⟩
theorem made_inj {x y : Dd} {r : Rc} (h1 : made x = some r) (h2 : made y = some r) : x = y := by
  cases x <;> simp [made] at h1
  cases y <;> simp [made] at h2
  subst h1
  cases h2
  rfl
/-- since when a row has its name: the key of the deed that made it, or of a deed about it -/
theorem since_of (r : Rc) : ∀ l : List Dd, (l.foldl upd1 r).since = r.since ∨ ∃ x, x ∈ l ∧ x.at_ = some r.key ∧ (l.foldl upd1 r).since = x.key := by
  intro l
  induction l generalizing r with
  | nil => exact .inl rfl
  | cons x l ih =>
    rw [List.foldl_cons]
    rcases ih (upd1 r x) with h | ⟨y, hy, h1, h2⟩
    · by_cases c : x.at_ = some r.key
      · cases x with
        | new _ _ _ => simp [Dd.at_] at c
        | name k a n =>
          simp only [Dd.at_, Option.some.injEq] at c
          rw [h]
          by_cases e : r.name = n
          · exact .inl (by simp [upd1, c, e])
          · exact .inr ⟨.name k a n, by simp, by simp [Dd.at_, c], by simp [upd1, c, e, Dd.key]⟩
        | worth k a w =>
          simp only [Dd.at_, Option.some.injEq] at c
          exact .inl (by rw [h]; simp [upd1, c])
        | drop k a =>
          simp only [Dd.at_, Option.some.injEq] at c
          exact .inl (by rw [h]; simp [upd1, c])
      · exact .inl (by rw [h, upd1_not c])
    · exact .inr ⟨y, by simp [hy], by rw [h1, upd1_key], h2⟩
theorem since_inj {ds : List Dd} (g : Good ds) {x y : Dd} {r s : Rc} (hx : x ∈ ds) (hy : y ∈ ds) (h1 : made x = some r) (h2 : made y = some s) {l : List Dd} (hl : ∀ z, z ∈ l → z ∈ ds) (e : (rowsAt l r).since = (rowsAt l s).since) : r = s := by
  obtain ⟨k1, s1, n1⟩ := made_key h1
  obtain ⟨k2, s2, n2⟩ := made_key h2
  have fin : x.key = y.key → r = s := fun z => by
    have := g.one x y hx hy z
    subst this
    rw [h1] at h2
    exact Option.some.inj h2
  have no : ∀ {u v : Dd}, u ∈ ds → v ∈ ds → u.key = v.key → u.at_ = v.at_ := fun hu hv z => by rw [g.one _ _ hu hv z]
  unfold rowsAt at e
  rcases since_of r l with a | ⟨u, hu, u1, u2⟩ <;> rcases since_of s l with b | ⟨v, hv, v1, v2⟩
  · rw [a, b, s1, s2] at e
    exact fin e
  · rw [a, s1, v2] at e
    have := no hx (hl v hv) e
    rw [n1, v1] at this
    cases this
  · rw [u2, b, s2] at e
    have := no (hl u hu) hy e
    rw [n2, u1] at this
    cases this
  · rw [u2, v2] at e
    have := no (hl u hu) (hl v hv) e
    rw [u1, v1, k1, k2] at this
    exact fin (Option.some.inj this)
theorem rkey_toks {a b : Rc} (h : keyToks (rkey a) = keyToks (rkey b)) : a.since = b.since := by
  have e : ∀ (x y : Int) (z : Str), keyToks (.tuple [.str z, .tuple [.int x, .int y]]) = [.inl 1, .inr z.cps.toList, .inl 1, .inl 1, .inl x, .inl 1, .inl y, .inl 0, .inl 0] := fun x y z => by simp [keyToks, keyToksAll]
  rw [e, e] at h
  simp only [List.cons.injEq, Sum.inl.injEq] at h
  exact Prod.ext h.2.2.2.2.1 h.2.2.2.2.2.2.1
theorem rle_anti {ds : List Dd} (g : Good ds) {a b : Rc} (ha : a ∈ rows ds) (hb : b ∈ rows ds) (h1 : rle a b = true) (h2 : rle b a = true) : a = b := by
  have := rkey_toks (ple_anti h1 h2)
  obtain ⟨r, hr, rfl⟩ := List.mem_map.mp ha
  obtain ⟨s, hs, rfl⟩ := List.mem_map.mp hb
  obtain ⟨x, hx, e1⟩ := List.mem_filterMap.mp hr
  obtain ⟨y, hy, e2⟩ := List.mem_filterMap.mp hs
  rw [since_inj g (mem_ordd.mp hx) (mem_ordd.mp hy) e1 e2 (fun z hz => mem_ordd.mp hz) this]
/-- rows told in whatever turn are sorted the same -/
theorem there_of {ds : List Dd} (g : Good ds) {l : List Rc} (p : l.Perm ((rows ds).filter fun r => !r.gone)) : l.mergeSort rle = there ds := by
  unfold there
  refine sort_eq (le := rle) (fun a b c => ple_trans _ _ _) (fun a b => ple_total _ _) p fun a b ha hb h1 h2 => ?_
  exact rle_anti g (List.mem_filter.mp (p.mem_iff.mp ha)).1 (List.mem_filter.mp (p.mem_iff.mp hb)).1 h1 h2
theorem rows_nodup {ds : List Dd} (g : Good ds) : (rows ds).Nodup := by
  unfold rows
  have h1 : ((ordd ds).filterMap made).Nodup := by
    refine List.Pairwise.filterMap made ?_ (ordd_nodup ds)
    intro x y ne r hr s hs e
    subst e
    exact ne (made_inj hr hs)
  refine List.pairwise_map.mpr (List.Pairwise.imp_of_mem ?_ h1)
  intro r s hr hs ne e
  obtain ⟨x, hx, e1⟩ := List.mem_filterMap.mp hr
  obtain ⟨y, hy, e2⟩ := List.mem_filterMap.mp hs
  exact ne (since_inj g (mem_ordd.mp hx) (mem_ordd.mp hy) e1 e2 (fun z hz => mem_ordd.mp hz) (congrArg Rc.since e))
theorem there_mem {ds : List Dd} {r : Rc} : r ∈ there ds ↔ r ∈ rows ds ∧ r.gone = false := by
  unfold there
  rw [(List.mergeSort_perm _ _).mem_iff, List.mem_filter]
  simp
theorem there_sorted (ds : List Dd) : (there ds).Pairwise fun a b => rle a b = true := List.pairwise_mergeSort (le := rle) (fun a b c => ple_trans _ _ _) (fun a b => ple_total _ _) _

def shownAs (n : Str) (c : Nat) : Str := if c = 0 then n else n ++ (toString ((c : Int) + 1) : Str)
noncomputable def shownAt (l : List Rc) (r : Rc) : Str := shownAs r.name (l.filter fun s => decide (s.name = r.name)).length
noncomputable def shownFrom (p : List Rc) : List Rc → List (Str × Rc)
  | [] => []
  | r :: l => (shownAt p r, r) :: shownFrom (p ++ [r]) l
noncomputable def shown (l : List Rc) : List (Str × Rc) := shownFrom [] l
theorem shownFrom_snoc (r : Rc) : ∀ (l p : List Rc), shownFrom p (l ++ [r]) = shownFrom p l ++ [(shownAt (p ++ l) r, r)]
  | [], p => by simp [shownFrom]
  | a :: l, p => by
    have := shownFrom_snoc r l (p ++ [a])
    simp [shownFrom, this]
theorem shown_snoc (l : List Rc) (r : Rc) : shown (l ++ [r]) = shown l ++ [(shownAt l r, r)] := by
  have := shownFrom_snoc r l []
  simpa [shown] using this
theorem shownFrom_rows : ∀ (l p : List Rc), (shownFrom p l).map (·.2) = l
  | [], _ => rfl
  | r :: l, p => by simp [shownFrom, shownFrom_rows l]
theorem shown_rows (l : List Rc) : (shown l).map (·.2) = l := shownFrom_rows l []
theorem shown_length (l : List Rc) : (shown l).length = l.length := by
  have := congrArg List.length (shown_rows l)
  simpa using this
theorem rle_name {a b : Rc} (h : rle a b = true) : ple (.str a.name) (.str b.name) = true := by
  unfold rle ple at *
  simp only [Bool.not_eq_true'] at *
  cases e : dataLt (.str b.name) (.str a.name) with
  | false => rfl
  | true =>
    have ne : PyData.eqv (.str b.name) (.str a.name) = false := by
      cases z : PyData.eqv (.str b.name) (.str a.name) with
      | false => rfl
      | true =>
        have : b.name = a.name := by simpa [PyData.eqv] using z
        rw [this] at e
        unfold dataLt at e
        rw [PyProof.Rows.lex_irrefl] at e
        cases e
    unfold rkey at h
    rw [dataLt_tuple, dataLt_all_no (by simp [alike]) ne, e] at h
    cases h
theorem name_anti {x y : Str} (h1 : ple (.str x) (.str y) = true) (h2 : ple (.str y) (.str x) = true) : x = y := by
  have := ple_anti h1 h2
  simp only [keyToks, List.cons.injEq, Sum.inr.injEq, and_true] at this
  exact str_of_cps this
/-- in a sorted list the rows of one name stand together -/
theorem together {p : List Rc} {q r : Rc} (s : (p ++ [q] ++ [r]).Pairwise fun a b => rle a b = true) (ne : q.name ≠ r.name) : ((p ++ [q]).filter fun s => decide (s.name = r.name)) = [] := by
  rw [List.filter_eq_nil_iff]
  intro a ha
  simp only [decide_eq_true_eq]
  intro e
  have s1 := List.pairwise_append.mp s
  rcases List.mem_append.mp ha with z | z
  · have s2 := List.pairwise_append.mp s1.1
    have aq := s2.2.2 a z q (by simp)
    have qr := s1.2.2 q (by simp) r (by simp)
    refine ne (name_anti (rle_name qr) ?_)
    rw [← e]
    exact rle_name aq
  · rw [List.mem_singleton.mp z] at e
    exact ne e
/-- which name a row has, by its key -/
noncomputable def nameOf (ds : List Dd) (k : Ky) : Option Str := (((shown (there ds)).filter fun p => decide (p.2.key = k)).head?).map (·.1)
theorem eqk_key {k : Ky} : D.eqOk (Ky.d k) := by simp [D.eqOk, D.plain, D.deep, D.plainAll, D.deepAll]
theorem eqb_key {a b : Ky} : D.eqb (Ky.d a) (Ky.d b) = decide (a = b) := by unfold D.eqb; congr 1; simp [Prod.ext_iff]
theorem ex_key {p : Ky → Prop} {a b : Int} : (∃ k : Ky, [D.tup [.int a, .int b]] = [Ky.d k] ∧ p k) ↔ p (a, b) := by
  constructor
  · rintro ⟨k, e, h⟩
    simp only [Ky.d, List.cons.injEq, D.tup.injEq, D.int.injEq, and_true] at e
    obtain ⟨rfl, rfl⟩ := e
    exact h
  · exact fun h => ⟨(a, b), rfl, h⟩
theorem w_nn : ("name" : Str) ≠ "new" := by decide +kernel
theorem w_wn : ("worth" : Str) ≠ "new" := by decide +kernel
theorem w_dn : ("drop" : Str) ≠ "new" := by decide +kernel
theorem w_nd : ("name" : Str) ≠ "drop" := by decide +kernel
theorem w_wd : ("worth" : Str) ≠ "drop" := by decide +kernel
theorem w_wm : ("worth" : Str) ≠ "name" := by decide +kernel
theorem w_dm : ("drop" : Str) ≠ "name" := by decide +kernel
theorem w_dw : ("drop" : Str) ≠ "worth" := by decide +kernel
theorem w_nw : ("name" : Str) ≠ "worth" := by decide +kernel
theorem eqk_new : D.eqOk (.str "new") := eqk_str (by decide +kernel)
theorem eqk_name : D.eqOk (.str "name") := eqk_str (by decide +kernel)
theorem eqk_worth : D.eqOk (.str "worth") := eqk_str (by decide +kernel)
theorem eqk_drop : D.eqOk (.str "drop") := eqk_str (by decide +kernel)
theorem ge_key {M : Mp} {Φ : KD} {a b c d : Int} : aGe (.tup [.int a, .int b]) (.tup [.int c, .int d]) M Φ ↔ Φ (.bl (!HT.lexLt [a, b] [c, d])) M := by
  unfold aGe
  constructor
  · rintro ⟨a', b', c', d', e1, e2, h⟩
    cases e1; cases e2; exact h
  · exact fun h => ⟨a, b, c, d, rfl, rfl, h⟩
theorem lexLt_klt {a b c d : Int} : HT.lexLt [a, b] [c, d] = true ↔ klt (a, b) (c, d) := by
  unfold klt
  simp only [HT.lexLt]
  by_cases h1 : a = c
  · subst h1
    by_cases h3 : b = d
    · subst h3; simp
    · simp [h3]
  · simp [h1]
theorem setkey_key (k : Ky) : SetKey (Ky.d k) := ⟨⟨_, rfl⟩, by simp [D.hashy, D.hashyAll], by simp [D.deep, D.deepAll]⟩
theorem setkey_dd (x : Dd) : SetKey x.d := by
  refine ⟨⟨_, rfl⟩, ?_, ?_⟩
  · cases x <;> simp [Dd.d, Dd.tl, D.hashy, D.hashyAll]
  · cases x <;> simp [Dd.d, Dd.tl, D.deep, D.deepAll]
theorem plain_dd {x : Dd} (h : x.ok) : D.plain x.d = true ∧ D.deep x.d ≤ 60 := by
  refine ⟨?_, Nat.le_trans (setkey_dd x).2.2 (by decide)⟩
  cases x with
  | new k n w => simp [Dd.d, Dd.tl, Dd.word, D.plain, D.plainAll, nameOk_str h.2.1]; decide +kernel
  | name k a n => simp [Dd.d, Dd.tl, Dd.word, D.plain, D.plainAll, nameOk_str h.2.2.2]; decide +kernel
  | worth k a w => simp [Dd.d, Dd.tl, Dd.word, D.plain, D.plainAll]; decide +kernel
  | drop k a => simp [Dd.d, Dd.tl, Dd.word, D.plain, D.plainAll]; decide +kernel
theorem eqk_dd {x : Dd} (h : x.ok) : D.eqOk x.d := ⟨(plain_dd h).1, Nat.le_trans (plain_dd h).2 (by decide)⟩
def head2 : D → D
  | .tup l => .tup (l.take 2)
  | d => d
theorem head2_dd (x : Dd) : head2 x.d = Ky.d x.key := rfl
theorem dd_inj {x y : Dd} (h : x.d = y.d) : x = y := by
  cases x <;> cases y <;> simp [Dd.d, Dd.key, Dd.word, Dd.tl, Prod.ext_iff] at h ⊢ <;> (try exact absurd h.2.2.1 (by decide +kernel)) <;> simp_all
theorem alike_self : ∀ (x : Dd), alike (D.py x.d) (D.py x.d) = true := fun x => by
  cases x <;> simp [py_dd, alike, alikeAll, D.pyAll, D.py, Dd.word, Dd.tl]
theorem alikeTo_self {l : List PyData} (h : alikeAll l l = true) : alikeTo l l = true := by
  induction l with
  | nil => simp [alikeTo]
  | cons a l ih =>
    simp only [alikeAll, Bool.and_eq_true] at h
    simp only [alikeTo, h.1, ih h.2, Bool.or_true, Bool.and_self]
/-- deeds that stand together can be sorted -/
theorem sortOk_dd {xs : List Dd} (g : Good xs) : SortOk (xs.map Dd.d) := by
  refine ⟨fun d hd => ?_, ?_, ?_, ?_⟩
  · obtain ⟨x, hx, rfl⟩ := List.mem_map.mp hd
    exact plain_dd (g.ok x hx)
  · intro d hd
    obtain ⟨e, he, rfl⟩ := List.mem_map.mp hd
    obtain ⟨x, hx, rfl⟩ := List.mem_map.mp he
    exact ⟨_, _, py_dd x⟩
  · intro x r x' r' h1 h2
    obtain ⟨e, he, e1⟩ := List.mem_map.mp h1
    obtain ⟨u, hu, rfl⟩ := List.mem_map.mp he
    obtain ⟨e', he', e2⟩ := List.mem_map.mp h2
    obtain ⟨v, hv, rfl⟩ := List.mem_map.mp he'
    rw [py_dd] at e1 e2
    cases e1
    cases e2
    simp [alike]
  · intro l l' h1 h2
    obtain ⟨e, he, e1⟩ := List.mem_map.mp h1
    obtain ⟨u, hu, rfl⟩ := List.mem_map.mp he
    obtain ⟨e', he', e2⟩ := List.mem_map.mp h2
    obtain ⟨v, hv, rfl⟩ := List.mem_map.mp he'
    by_cases c : u.key = v.key
    · have := g.one u v hu hv c
      subst this
      have := alike_self u
      rw [e1] at e2
      cases e2
      rw [e1] at this
      simp only [alike] at this
      exact alikeTo_self this
    · rw [py_dd] at e1 e2
      cases e1
      cases e2
      by_cases c1 : u.key.1 = v.key.1
      · have c2 : u.key.2 ≠ v.key.2 := fun z => c (Prod.ext c1 z)
        simp [alikeTo, alike, PyData.eqv, c1, c2]
      · simp [alikeTo, alike, PyData.eqv, c1]
theorem sorted_dd {xs : List Dd} (one : ∀ x y, x ∈ xs → y ∈ xs → x.key = y.key → x = y) : (xs.map Dd.d).mergeSort dle = (xs.mergeSort fun a b => kle a.key b.key).map Dd.d :=
  (List.map_mergeSort fun a ha b hb => (dle_dd (one a b ha hb)).symm).symm
theorem sortOk_key (ks : List Ky) : SortOk (ks.map Ky.d) := by
  refine ⟨fun d hd => ?_, ?_, ?_, ?_⟩
  · obtain ⟨x, hx, rfl⟩ := List.mem_map.mp hd
    simp [D.plain, D.plainAll, D.deep, D.deepAll]
  · intro d hd
    obtain ⟨e, he, rfl⟩ := List.mem_map.mp hd
    obtain ⟨x, hx, rfl⟩ := List.mem_map.mp he
    exact ⟨_, _, py_ky x⟩
  · intro x r x' r' h1 h2
    obtain ⟨e, he, e1⟩ := List.mem_map.mp h1
    obtain ⟨u, hu, rfl⟩ := List.mem_map.mp he
    obtain ⟨e', he', e2⟩ := List.mem_map.mp h2
    obtain ⟨v, hv, rfl⟩ := List.mem_map.mp he'
    rw [py_ky] at e1 e2
    cases e1
    cases e2
    simp [alike]
  · intro l l' h1 h2
    obtain ⟨e, he, e1⟩ := List.mem_map.mp h1
    obtain ⟨u, hu, rfl⟩ := List.mem_map.mp he
    obtain ⟨e', he', e2⟩ := List.mem_map.mp h2
    obtain ⟨v, hv, rfl⟩ := List.mem_map.mp he'
    rw [py_ky] at e1 e2
    cases e1
    cases e2
    simp [alikeTo, alike]
section
variable {M : Mp} {Φ : KD}
theorem sl_dd {x : Dd} : aSl x.d none (some 2) M Φ ↔ Φ (Ky.d x.key) M := by
  unfold Dd.d
  rw [sl_tup, cut_2]
  exact Iff.rfl
theorem ix_dd0 {x : Dd} : aIx x.d (.int 0) M Φ ↔ Φ (.int x.key.1) M := by
  unfold Dd.d
  rw [ix_tup, atI_0]
  simp
theorem ix_dd2 {x : Dd} : aIx x.d (.int 2) M Φ ↔ Φ (.str x.word) M := by
  unfold Dd.d
  rw [ix_tup, atI_2]
  simp
theorem eqk_word {x : Dd} : D.eqOk (.str x.word) := by
  cases x
  · exact eqk_new
  · exact eqk_name
  · exact eqk_worth
  · exact eqk_drop
end
end NF
namespace NF
open PySem L2 PySem.W PyProof.Rows

theorem Now.cons {M : Mp} {d e : D} (h : Now M d e) (p : Addr × MO) : Now (p :: M) d e := by
  cases h with
  | self => exact .self _
  | lst m => exact .lst (List.mem_cons_of_mem _ m)
theorem Now.app {M : Mp} {d e : D} (h : Now M d e) (A : Mp) : Now (A ++ M) d e := by
  induction A with
  | nil => exact h
  | cons p A ih => exact ih.cons p
def kk (k : Ky) : List Key := [.inl k.1, .inl k.2]
theorem kk_inj {a b : Ky} : kk a = kk b ↔ a = b := by
  unfold kk
  simp [Prod.ext_iff]
theorem kk_d (k : Ky) : (kk k).map keyD = [.int k.1, .int k.2] := rfl
theorem kk_t (k : Ky) : keyT (kk k) = Ky.d k := rfl
/-- a dict by keys: what is put -/
def kvOf (f : α → Ky) (v : α → D) (l : List α) : List (List Key × D) := l.map fun x => (kk (f x), v x)
theorem look_kv {α : Type} {f : α → Ky} {v : α → D} {x : α} : ∀ {l : List α}, x ∈ l → (∀ y, y ∈ l → f y = f x → y = x) → lookA (kvOf f v l) (kk (f x)) = some (v x)
  | a :: l, h, one => by
    unfold lookA kvOf
    rw [List.map_cons, List.find?_cons]
    by_cases e : f a = f x
    · rw [one a (by simp) e]
      simp
    · rw [show decide ((kk (f a), v a).1 = kk (f x)) = false by simp [kk_inj, e]]
      have hx : x ∈ l := by
        rcases List.mem_cons.mp h with z | z
        · subst z; exact absurd rfl e
        · exact z
      exact look_kv hx fun y hy => one y (List.mem_cons_of_mem _ hy)
theorem look_no {α : Type} {f : α → Ky} {v : α → D} {k : Ky} : ∀ {l : List α}, (∀ y, y ∈ l → f y ≠ k) → lookA (kvOf f v l) (kk k) = none
  | [], _ => rfl
  | a :: l, h => by
    unfold lookA kvOf
    rw [List.map_cons, List.find?_cons]
    rw [show decide ((kk (f a), v a).1 = kk k) = false by simp [kk_inj, h a (by simp)]]
    exact look_no fun y hy => h y (List.mem_cons_of_mem _ hy)
theorem put_new {α : Type} {f : α → Ky} {v : α → D} {x : α} {l : List α} (h : ∀ y, y ∈ l → f y ≠ f x) : putA (kvOf f v l) (kk (f x)) (v x) = kvOf f v (l ++ [x]) := by
  unfold putA
  rw [if_neg]
  · simp [kvOf]
  · simp only [kvOf, List.any_map, List.any_eq_true, not_exists, not_and]
    intro y hy
    simp [kk_inj, h y hy]
theorem put_old {α : Type} {f : α → Ky} {v : α → D} {x : α} {l : List α} (m : x ∈ l) (h : ∀ y, y ∈ l → f y = f x → y = x) : putA (kvOf f v l) (kk (f x)) (v x) = kvOf f v l := by
  unfold putA
  rw [if_pos]
  · unfold kvOf
    rw [List.map_map]
    refine List.map_congr_left fun y hy => ?_
    simp only [Function.comp_def]
    by_cases e : f y = f x
    · rw [if_pos (by rw [e]), h y hy e]
    · rw [if_neg (by rw [kk_inj]; exact e)]
  · simp only [kvOf, List.any_map, List.any_eq_true]
    exact ⟨x, m, by simp⟩
theorem uniq_snoc (l : List Dd) (x : Dd) : uniq (l ++ [x]) = if x ∈ uniq l then uniq l else uniq l ++ [x] := by
  unfold uniq
  rw [List.foldl_append]
  rfl
theorem put_uniq {ds : List Dd} (g : Good ds) {l : List Dd} {x : Dd} (hl : ∀ y, y ∈ l → y ∈ ds) (hx : x ∈ ds) : putA (kvOf Dd.key Dd.d (uniq l)) (kk x.key) x.d = kvOf Dd.key Dd.d (uniq (l ++ [x])) := by
  rw [uniq_snoc]
  by_cases c : x ∈ uniq l
  · rw [if_pos c, put_old c fun y hy e => g.one y x (hl y (mem_uniq.mp hy)) hx e]
  · rw [if_neg c, put_new fun y hy e => c (by rw [← g.one y x (hl y (mem_uniq.mp hy)) hx e]; exact hy)]
theorem uniq_len {l : List Dd} : (uniq l).length ≤ l.length := Good.nodup_len
theorem keys_kv {α : Type} {f : α → Ky} {v : α → D} {l : List α} : (kvOf f v l).map (fun p => keyT p.1) = (l.map f).map Ky.d := by
  unfold kvOf
  rw [List.map_map, List.map_map]
  rfl
theorem sorted_keys {l : List Dd} : (((l.map Dd.key).map Ky.d).mergeSort dle) = ((l.mergeSort fun a b => kle a.key b.key).map fun x => Ky.d x.key) := by
  rw [List.map_map, List.map_mergeSort (s := dle) (f := fun x : Dd => Ky.d x.key) fun a _ b _ => (dle_ky _ _).symm]
  rfl

def flds (r : Rc) : List (Str × D) := [("key", Ky.d r.key), ("name", .str r.name), ("since", Ky.d r.since), ("worth", .int r.worth), ("is_dropped", .bl r.gone)]
def rcd (C : Addr) (r : Rc) : D := .rcd C ((flds r).map (·.1)) ((flds r).map (·.2))
theorem zip_flds (r : Rc) : ((flds r).map (·.1)).zip ((flds r).map (·.2)) = flds r := rfl
theorem sne {a b : Str} (h : a ≠ b) : (a == b) = false := by simpa using h
theorem f_key (r : Rc) : (flds r).lookup ("key" : Str) = some (Ky.d r.key) := by
  unfold flds
  simp [List.lookup]
theorem f_name (r : Rc) : (flds r).lookup ("name" : Str) = some (.str r.name) := by
  unfold flds
  rw [List.lookup_cons, show (("name" : Str) == "key") = false by decide +kernel]
  simp [List.lookup]
theorem f_since (r : Rc) : (flds r).lookup ("since" : Str) = some (Ky.d r.since) := by
  unfold flds
  rw [List.lookup_cons, show (("since" : Str) == "key") = false by decide +kernel]
  dsimp only
  rw [List.lookup_cons, show (("since" : Str) == "name") = false by decide +kernel]
  simp [List.lookup]
theorem f_worth (r : Rc) : (flds r).lookup ("worth" : Str) = some (.int r.worth) := by
  unfold flds
  rw [List.lookup_cons, show (("worth" : Str) == "key") = false by decide +kernel]
  dsimp only
  rw [List.lookup_cons, show (("worth" : Str) == "name") = false by decide +kernel]
  dsimp only
  rw [List.lookup_cons, show (("worth" : Str) == "since") = false by decide +kernel]
  simp [List.lookup]
theorem f_gone (r : Rc) : (flds r).lookup ("is_dropped" : Str) = some (.bl r.gone) := by
  unfold flds
  rw [List.lookup_cons, show (("is_dropped" : Str) == "key") = false by decide +kernel]
  dsimp only
  rw [List.lookup_cons, show (("is_dropped" : Str) == "name") = false by decide +kernel]
  dsimp only
  rw [List.lookup_cons, show (("is_dropped" : Str) == "since") = false by decide +kernel]
  dsimp only
  rw [List.lookup_cons, show (("is_dropped" : Str) == "worth") = false by decide +kernel]
  simp [List.lookup]
theorem p_name (r : Rc) (n : Str) : putD "name" (.str n) (flds r) = flds { r with name := n } := by
  unfold flds
  simp only [putD]
  rw [if_neg (show ¬ ("key" : Str) = "name" by decide +kernel), if_pos trivial]
theorem p_since (r : Rc) (k : Ky) : putD "since" (Ky.d k) (flds r) = flds { r with since := k } := by
  unfold flds
  simp only [putD]
  rw [if_neg (show ¬ ("key" : Str) = "since" by decide +kernel), if_neg (show ¬ ("name" : Str) = "since" by decide +kernel), if_pos trivial]
theorem p_worth (r : Rc) (w : Int) : putD "worth" (.int w) (flds r) = flds { r with worth := w } := by
  unfold flds
  simp only [putD]
  rw [if_neg (show ¬ ("key" : Str) = "worth" by decide +kernel), if_neg (show ¬ ("name" : Str) = "worth" by decide +kernel), if_neg (show ¬ ("since" : Str) = "worth" by decide +kernel), if_pos trivial]
theorem p_gone (r : Rc) (b : Bool) : putD "is_dropped" (.bl b) (flds r) = flds { r with gone := b } := by
  unfold flds
  simp only [putD]
  rw [if_neg (show ¬ ("key" : Str) = "is_dropped" by decide +kernel), if_neg (show ¬ ("name" : Str) = "is_dropped" by decide +kernel), if_neg (show ¬ ("since" : Str) = "is_dropped" by decide +kernel), if_neg (show ¬ ("worth" : Str) = "is_dropped" by decide +kernel), if_pos trivial]
theorem p_init (k : Ky) (n : Str) (w : Int) : putD "is_dropped" (.bl false) (putD "worth" (.int w) (putD "since" (Ky.d k) (putD "name" (.str n) (putD "key" (Ky.d k) [])))) = flds ⟨k, n, k, w, false⟩ := by
  simp only [putD]
  rw [if_neg (show ¬ ("key" : Str) = "name" by decide +kernel)]
  simp only [putD]
  rw [if_neg (show ¬ ("key" : Str) = "since" by decide +kernel), if_neg (show ¬ ("name" : Str) = "since" by decide +kernel)]
  simp only [putD]
  rw [if_neg (show ¬ ("key" : Str) = "worth" by decide +kernel), if_neg (show ¬ ("name" : Str) = "worth" by decide +kernel), if_neg (show ¬ ("since" : Str) = "worth" by decide +kernel)]
  simp only [putD]
  rw [if_neg (show ¬ ("key" : Str) = "is_dropped" by decide +kernel), if_neg (show ¬ ("name" : Str) = "is_dropped" by decide +kernel), if_neg (show ¬ ("since" : Str) = "is_dropped" by decide +kernel), if_neg (show ¬ ("worth" : Str) = "is_dropped" by decide +kernel)]
  rfl
/-- rows that are owned, the last made ahead -/
def insL (C : Addr) (l : List (Addr × Rc)) : Mp := l.reverse.map fun q => (q.1, MO.ins C (flds q.2))
theorem insL_snoc (C : Addr) (l : List (Addr × Rc)) (a : Addr) (r : Rc) : insL C (l ++ [(a, r)]) = (a, MO.ins C (flds r)) :: insL C l := by
  unfold insL
  simp
theorem insL_at (C : Addr) (l₁ l₂ : List (Addr × Rc)) (a : Addr) (r : Rc) : insL C (l₁ ++ (a, r) :: l₂) = insL C l₂ ++ (a, MO.ins C (flds r)) :: insL C l₁ := by
  unfold insL
  simp
theorem mem_insL {C : Addr} {l : List (Addr × Rc)} {a : Addr} {r : Rc} (h : (a, r) ∈ l) : (a, MO.ins C (flds r)) ∈ insL C l := by
  unfold insL
  exact List.mem_map.mpr ⟨(a, r), by simpa using h, rfl⟩
theorem dom_insL {C : Addr} {l : List (Addr × Rc)} {M : Mp} : dom (insL C l ++ M) = (l.reverse.map (·.1)) ++ dom M := by
  unfold insL dom
  simp
/-- rows and the dict of them stand still from now on -/
theorem Fin.rows {C p : Addr} {l : List (Addr × Rc)} {M : Mp} {Φ : KD} (hp : p ∉ dom M) (hl : ∀ q, q ∈ l → q.1 ∉ dom M) (h : Φ (.dic (l.map fun q => kk q.2.key) (l.map fun q => rcd C q.2)) M) :
    Fin Φ (.op (.ref p)) (insL C l ++ (p, MO.dic (kvOf (fun q : Addr × Rc => q.2.key) (fun q => .op (.ref q.1)) l)) :: M) := by
  refine ⟨.dic (l.map fun q => kk q.2.key) (l.map fun q => rcd C q.2), M, ?_, ?_, h⟩
  · exact (List.sublist_cons_self _ _).trans (List.sublist_append_right _ _)
  · have e : (l.map fun q => kk q.2.key) = (kvOf (fun q : Addr × Rc => q.2.key) (fun q => .op (.ref q.1)) l).map (·.1) := by
      unfold kvOf
      rw [List.map_map]
      rfl
    rw [e]
    refine .dic (by simp) hp (fun i d d' h1 h2 => ?_) (by simp [kvOf])
    unfold kvOf at h1
    rw [List.map_map, List.getElem?_map] at h1
    rw [List.getElem?_map] at h2
    obtain ⟨q, hq, rfl⟩ := Option.map_eq_some_iff.mp h1
    rw [hq] at h2
    cases h2
    exact .ins (List.mem_append_left _ (mem_insL (List.mem_of_getElem? hq))) (hl q (List.mem_of_getElem? hq))
noncomputable def kf : D → PyData
  | .rcd _ ns es => .tuple [((ns.zip es).lookup ("name" : Str)).elim .none D.py, ((ns.zip es).lookup ("since" : Str)).elim .none D.py]
  | _ => .none
theorem kf_rcd (C : Addr) (r : Rc) : kf (rcd C r) = rkey r := by
  unfold kf rcd
  dsimp only
  rw [zip_flds, f_name, f_since]
  simp [D.py, D.pyAll]
theorem lamOk (C : Addr) (l : List Rc) : LamOk C "name" "since" kf (l.map (rcd C)) := fun d hd => by
  obtain ⟨r, _, rfl⟩ := List.mem_map.mp hd
  exact ⟨_, _, r.name, r.since.1, r.since.2, rfl, by rw [zip_flds, f_name], by rw [zip_flds, f_since], kf_rcd C r⟩
theorem sorted_rcd (C : Addr) (l : List Rc) : (l.map (rcd C)).mergeSort (dataLe false kf) = (l.mergeSort rle).map (rcd C) :=
  (List.map_mergeSort fun a _ b _ => by rw [dataLe_eq, kf_rcd, kf_rcd]; rfl).symm
theorem not_taken {α : Type} {l : List α} {i : Nat} {x : α} (nd : l.Nodup) (h : l[i]? = some x) : x ∉ l.take i := fun m => by
  obtain ⟨hi, e⟩ := List.getElem?_eq_some_iff.mp h
  obtain ⟨j, hj, e2⟩ := List.getElem_of_mem m
  rw [List.length_take] at hj
  rw [List.getElem_take] at e2
  have lt : j < i := by omega
  exact (List.pairwise_iff_getElem.mp nd) j i (by omega) hi lt (e2.trans e.symm)
theorem take_more {α : Type} {l : List α} {i : Nat} {x : α} (h : l[i]? = some x) : l.take (i + 1) = l.take i ++ [x] := by rw [List.take_succ, h]; rfl
theorem rowsAt_snoc (l : List Dd) (x : Dd) (r : Rc) : rowsAt (l ++ [x]) r = upd1 (rowsAt l r) x := by
  unfold rowsAt
  rw [List.foldl_append]
  rfl
theorem rowsAt_key (l : List Dd) (r : Rc) : (rowsAt l r).key = r.key := fold_key r l
/-- rows have each their own key -/
theorem made_keys {ds : List Dd} (g : Good ds) : (((ordd ds).filterMap made).map Rc.key).Nodup := by
  refine List.pairwise_map.mpr (List.Pairwise.imp_of_mem ?_ (List.Pairwise.filterMap made (S := fun a b => a ≠ b) ?_ (ordd_nodup ds)))
  · intro r s hr hs ne e
    obtain ⟨x, hx, e1⟩ := List.mem_filterMap.mp hr
    obtain ⟨y, hy, e2⟩ := List.mem_filterMap.mp hs
    have := g.one x y (mem_ordd.mp hx) (mem_ordd.mp hy) (by rw [← (made_key e1).1, ← (made_key e2).1]; exact e)
    subst this
    rw [e1] at e2
    exact ne (Option.some.inj e2)
  · intro x y ne r hr s hs e
    subst e
    exact ne (made_inj hr hs)
/-- one row is changed, all others stay -/
theorem upd_one {l₁ l₂ : List (Addr × Rc)} {a : Addr} {r : Rc} {x : Dd} {rs : List Rc} (e : (l₁ ++ (a, r) :: l₂).map (·.2) = rs) (nd : (rs.map Rc.key).Nodup) (h : x.at_ = some r.key) : (l₁ ++ (a, upd1 r x) :: l₂).map (·.2) = rs.map fun s => upd1 s x := by
  subst e
  simp only [List.map_append, List.map_cons] at nd ⊢
  have n1 := List.nodup_append.mp nd
  have n2 := List.nodup_cons.mp n1.2.1
  congr 1
  · rw [List.map_map]
    refine List.map_congr_left fun q hq => ?_
    refine (upd1_not fun z => ?_).symm
    rw [h] at z
    exact n1.2.2 q.2.key (List.mem_map.mpr ⟨q.2, List.mem_map.mpr ⟨q, hq, rfl⟩, rfl⟩) r.key (by simp) (Option.some.inj z).symm
  · congr 1
    rw [List.map_map]
    refine List.map_congr_left fun q hq => ?_
    refine (upd1_not fun z => ?_).symm
    rw [h] at z
    exact n2.1 (by rw [Option.some.inj z]; exact List.mem_map.mpr ⟨q.2, List.mem_map.mpr ⟨q, hq, rfl⟩, rfl⟩)
theorem upd_none {l : List (Addr × Rc)} {x : Dd} (h : ∀ q, q ∈ l → x.at_ ≠ some q.2.key) : l.map (·.2) = (l.map (·.2)).map fun s => upd1 s x := by
  rw [List.map_map]
  exact List.map_congr_left fun q hq => (upd1_not (h q hq)).symm
theorem putD_len (f : Str) (v : D) : ∀ fs : List (Str × D), (putD f v fs).length ≤ fs.length + 1
  | [] => by simp [putD]
  | (g, x) :: r => by
    have := putD_len f v r
    unfold putD
    split <;> simp <;> omega
theorem putD_lt {f : Str} {v : D} {fs : List (Str × D)} {n : Nat} (h : fs.length < n) (k : n < 1000 := by decide) : (putD f v fs).length < n + 1 := Nat.lt_of_le_of_lt (putD_len f v fs) (by omega)
theorem rows_snoc (l : List Dd) (x : Dd) (rs : List Rc) : rs.map (rowsAt (l ++ [x])) = (rs.map (rowsAt l)).map fun s => upd1 s x := by
  rw [List.map_map]
  exact List.map_congr_left fun r _ => rowsAt_snoc l x r
theorem rows_keys {ds : List Dd} (g : Good ds) (l : List Dd) : ((((ordd ds).filterMap made).map (rowsAt l)).map Rc.key).Nodup := by
  rw [List.map_map, show (Rc.key ∘ rowsAt l) = Rc.key from funext fun r => rowsAt_key l r]
  exact made_keys g
theorem made_len (l : List Dd) : (l.filterMap made).length ≤ l.length := List.length_filterMap_le ..
theorem split_at {l : List (Addr × Rc)} {k : Ky} (h : ∃ q, q ∈ l ∧ q.2.key = k) : ∃ l₁ a r l₂, l = l₁ ++ (a, r) :: l₂ ∧ r.key = k := by
  obtain ⟨⟨a, r⟩, hq, e⟩ := h
  obtain ⟨l₁, l₂, rfl⟩ := List.append_of_mem hq
  exact ⟨l₁, a, r, l₂, rfl, e⟩
theorem kv_at (l₁ l₂ : List (Addr × Rc)) (a : Addr) (r s : Rc) (h : r.key = s.key) : kvOf (fun q : Addr × Rc => q.2.key) (fun q => D.op (.ref q.1)) (l₁ ++ (a, r) :: l₂) = kvOf (fun q : Addr × Rc => q.2.key) (fun q => D.op (.ref q.1)) (l₁ ++ (a, s) :: l₂) := by
  unfold kvOf
  simp [h]
theorem look_at {l : List (Addr × Rc)} {l₁ l₂ : List (Addr × Rc)} {a : Addr} {r : Rc} (e : l = l₁ ++ (a, r) :: l₂) (nd : ((l.map (·.2)).map Rc.key).Nodup) : lookA (kvOf (fun q : Addr × Rc => q.2.key) (fun q => D.op (.ref q.1)) l) (kk r.key) = some (.op (.ref a)) := by
  have mm : (a, r) ∈ l := by rw [e]; simp
  have := look_kv (f := fun q : Addr × Rc => q.2.key) (v := fun q => D.op (.ref q.1)) (x := (a, r)) (l := l) mm fun y hy z => ?_
  · exact this
  · subst e
    rw [List.map_map] at nd
    simp only [List.map_append, List.map_cons] at nd
    have n1 := List.nodup_append.mp nd
    have n2 := List.nodup_cons.mp n1.2.1
    rcases List.mem_append.mp hy with q | q
    · exact absurd z (n1.2.2 _ (List.mem_map.mpr ⟨y, q, rfl⟩) _ (by simp))
    · rcases List.mem_cons.mp q with q | q
      · exact q
      · exact absurd (List.mem_map.mpr ⟨y, q, z⟩) n2.1
/-- names and worths are such -/
def Rc.ok (r : Rc) : Prop := KeyOk r.key ∧ NameOk r.name ∧ KeyOk r.since ∧ WorthOk r.worth
theorem made_ok {x : Dd} {r : Rc} (h : made x = some r) (o : x.ok) : r.ok := by
  cases x <;> simp [made] at h
  subst h
  exact ⟨o.1, o.2.1, o.1, o.2.2⟩
theorem upd1_ok {x : Dd} {r : Rc} (o : x.ok) (h : r.ok) : (upd1 r x).ok := by
  obtain ⟨h1, h2, h3, h4⟩ := h
  cases x <;> simp only [upd1]
  · exact ⟨h1, h2, h3, h4⟩
  · split
    · refine ⟨h1, o.2.2.2, ?_, h4⟩
      show KeyOk (if _ then _ else _)
      split
      · exact h3
      · exact o.1
    · exact ⟨h1, h2, h3, h4⟩
  · split
    · exact ⟨h1, h2, h3, o.2.2.2⟩
    · exact ⟨h1, h2, h3, h4⟩
  · split
    · exact ⟨h1, h2, h3, h4⟩
    · exact ⟨h1, h2, h3, h4⟩
theorem rowsAt_ok : ∀ {l : List Dd} {r : Rc}, (∀ x, x ∈ l → x.ok) → r.ok → (rowsAt l r).ok
  | [], _, _, h => h
  | x :: l, r, o, h => by
    show (rowsAt l (upd1 r x)).ok
    exact rowsAt_ok (fun y hy => o y (List.mem_cons_of_mem _ hy)) (upd1_ok (o x (List.mem_cons_self ..)) h)
theorem rows_ok {ds : List Dd} (g : Good ds) {l : List Dd} (hl : ∀ x, x ∈ l → x ∈ ordd ds) {r : Rc} (h : r ∈ ((ordd ds).filterMap made).map (rowsAt l)) : r.ok := by
  obtain ⟨s, hs, rfl⟩ := List.mem_map.mp h
  obtain ⟨x, hx, e⟩ := List.mem_filterMap.mp hs
  exact rowsAt_ok (fun y hy => g.ordd.ok y (hl y hy)) (made_ok e (g.ordd.ok x hx))
theorem insL_in {C : Addr} {l₁ l₂ : List (Addr × Rc)} {a : Addr} {r : Rc} {Z : Mp} : insL C (l₁ ++ (a, r) :: l₂) ++ Z = insL C l₂ ++ (a, MO.ins C (flds r)) :: (insL C l₁ ++ Z) := by
  rw [insL_at]
  simp
end NF
namespace NF
open PySem L2 PySem.W PyProof.Rows

theorem alikeTo_all : ∀ {l m : List PyData}, alikeAll l m = true → alikeTo l m = true
  | [], _, _ => by simp [alikeTo]
  | _ :: _, [], _ => by simp [alikeTo]
  | a :: l, b :: m, h => by
    simp only [alikeAll, Bool.and_eq_true] at h
    simp only [alikeTo, h.1, alikeTo_all h.2, Bool.or_true, Bool.and_self]
theorem num_ok : ∀ c : Nat, c < 64 → PyData.strOk (Str.ofString (toString ((c : Int) + 1))) = true ∧ (Str.ofString (toString ((c : Int) + 1))).length ≤ 4 := by decide +kernel
theorem strOk_app {x y : Str} (h1 : PyData.strOk x = true) (h2 : PyData.strOk y = true) : PyData.strOk (x ++ y) = true := by
  unfold PyData.strOk at *
  rw [Str.cps_append, Array.all_append, h1, h2]
  rfl
theorem shownAs_ok {n : Str} {c : Nat} (h : NameOk n) (hc : c < 64) : PyData.strOk (shownAs n c) = true := by
  unfold shownAs
  split
  · exact nameOk_str h
  · exact strOk_app (nameOk_str h) (num_ok c hc).1
theorem filter_lt {l : List Rc} {n : Nat} (h : l.length < n) (p : Rc → Bool) : (l.filter p).length < n := Nat.lt_of_le_of_lt (List.length_filter_le ..) h
theorem shownFrom_ok : ∀ {l p : List Rc}, (∀ r, r ∈ l → r.ok) → p.length + l.length < 64 → ∀ q, q ∈ shownFrom p l → PyData.strOk q.1 = true ∧ q.2 ∈ l
  | [], _, _, _, q, h => by cases h
  | r :: l, p, ok, hl, q, h => by
    rcases List.mem_cons.mp h with e | h
    · rw [e]
      exact ⟨shownAs_ok (ok r (by simp)).2.1 (filter_lt (by simp at hl; omega) _), by simp⟩
    · obtain ⟨h1, h2⟩ := shownFrom_ok (l := l) (p := p ++ [r]) (fun s hs => ok s (by simp [hs])) (by simp at hl ⊢; omega) q h
      exact ⟨h1, by simp [h2]⟩
theorem there_len {ds : List Dd} (g : Good ds) : (there ds).length < 64 := by
  unfold there
  rw [List.length_mergeSort]
  refine Nat.lt_of_le_of_lt (List.length_filter_le ..) ?_
  unfold rows
  rw [List.length_map]
  exact Nat.lt_of_le_of_lt (made_len _) g.ordd.few
theorem there_ok {ds : List Dd} (g : Good ds) {r : Rc} (h : r ∈ there ds) : r.ok := rows_ok g (fun x h => h) (there_mem.mp h).1
theorem shown_ok {ds : List Dd} (g : Good ds) {q : Str × Rc} (h : q ∈ shown (there ds)) : PyData.strOk q.1 = true ∧ q.2.ok := by
  obtain ⟨h1, h2⟩ := shownFrom_ok (fun r hr => there_ok g hr) (by simpa using there_len g) q h
  exact ⟨h1, there_ok g h2⟩
def tri (p : Str × Rc) : D := .tup [.str p.1, Ky.d p.2.key, .int p.2.worth]
theorem py_tri (p : Str × Rc) : D.py (tri p) = .tuple [.str p.1, .tuple [.int p.2.key.1, .int p.2.key.2], .int p.2.worth] := by simp [tri, D.py, D.pyAll]
theorem sortOk_tri {l : List (Str × Rc)} (h : ∀ q, q ∈ l → PyData.strOk q.1 = true) : SortOk (l.map tri) := by
  refine ⟨fun d hd => ?_, ?_, ?_, ?_⟩
  · obtain ⟨x, hx, rfl⟩ := List.mem_map.mp hd
    simp [tri, D.plain, D.plainAll, D.deep, D.deepAll, h x hx]
  · intro d hd
    obtain ⟨e, he, rfl⟩ := List.mem_map.mp hd
    obtain ⟨x, hx, rfl⟩ := List.mem_map.mp he
    exact ⟨_, _, py_tri x⟩
  · intro x r x' r' h1 h2
    obtain ⟨e, he, e1⟩ := List.mem_map.mp h1
    obtain ⟨u, hu, rfl⟩ := List.mem_map.mp he
    obtain ⟨e', he', e2⟩ := List.mem_map.mp h2
    obtain ⟨v, hv, rfl⟩ := List.mem_map.mp he'
    rw [py_tri] at e1 e2
    cases e1
    cases e2
    simp [alike]
  · intro l l' h1 h2
    obtain ⟨e, he, e1⟩ := List.mem_map.mp h1
    obtain ⟨u, hu, rfl⟩ := List.mem_map.mp he
    obtain ⟨e', he', e2⟩ := List.mem_map.mp h2
    obtain ⟨v, hv, rfl⟩ := List.mem_map.mp he'
    rw [py_tri] at e1 e2
    cases e1
    cases e2
    exact alikeTo_all (by simp [alike, alikeAll])
/-- the table -/
noncomputable def tableD (ds : List Dd) : D := .lst (((shown (there ds)).map tri).mergeSort dle)
theorem eqk_table {ds : List Dd} (g : Good ds) : D.eqOk (tableD ds) := by
  have ok := sortOk_tri (l := shown (there ds)) fun q hq => (shown_ok g hq).1
  unfold tableD D.eqOk
  have all : ∀ d, d ∈ (((shown (there ds)).map tri).mergeSort dle) → D.plain d = true ∧ D.deep d ≤ 60 := fun d hd => ok.plain d ((List.mergeSort_perm _ _).mem_iff.mp hd)
  generalize ((shown (there ds)).map tri).mergeSort dle = l at all
  constructor
  · simp only [D.plain, D.plainAll_iff, List.all_eq_true]
    exact fun d hd => (all d hd).1
  · simp only [D.deep]
    have : D.deepAll l ≤ 60 := by
      induction l with
      | nil => simp [D.deepAll]
      | cons d l ih =>
        have h1 := (all d (by simp)).2
        have h2 := ih fun e he => all e (by simp [he])
        simp only [D.deepAll]
        omega
    omega
def optD : Option Str → D
  | none => .non
  | some s => .str s
theorem eqb_opt {a b : Option Str} : D.eqb (optD a) (optD b) = decide (a = b) := by
  unfold D.eqb
  congr 1
  cases a <;> cases b <;> simp [optD]
theorem now_opt {M : Mp} {a : Option Str} {d : D} : Now M (optD a) d ↔ d = optD a := by
  cases a
  · exact now_non
  · exact now_str
theorem eqk_opt {a : Option Str} (h : ∀ s, a = some s → PyData.strOk s = true) : D.eqOk (optD a) := by
  cases a with
  | none => exact eqk_non
  | some s => exact eqk_str (h s rfl)
theorem nameOf_ok {ds : List Dd} (g : Good ds) {k : Ky} : ∀ s, nameOf ds k = some s → PyData.strOk s = true := fun s h => by
  unfold nameOf at h
  obtain ⟨q, hq, rfl⟩ := Option.map_eq_some_iff.mp h
  exact (shown_ok g (List.mem_filter.mp (List.mem_of_mem_head? hq)).1).1
/-- a row's names, deed by deed -/
noncomputable def hist (row : List Dd) (k : Ky) : Nat → List (Ky × Option Str)
  | 0 => []
  | i + 1 => match row[i]? with
    | some x => if nameOf (row.take (i + 1)) k = nameOf (row.take i) k then hist row k i else hist row k i ++ [(x.key, nameOf (row.take (i + 1)) k)]
    | none => hist row k i
theorem hist_len (row : List Dd) (k : Ky) : ∀ i, (hist row k i).length ≤ i
  | 0 => Nat.le_refl _
  | i + 1 => by
    have := hist_len row k i
    unfold hist
    split
    · split
      · omega
      · simp; omega
    · omega
theorem nameOf_nil (k : Ky) : nameOf [] k = none := by
  have : there [] = [] := by simp [there, rows, ordd, uniq]
  unfold nameOf
  rw [this]
  rfl
def pairD (p : Ky × Option Str) : D := .tup [Ky.d p.1, optD p.2]
theorem Good.take {ds : List Dd} (g : Good ds) (n : Nat) : Good (ds.take n) := g.sub (fun x hx => List.mem_of_mem_take hx) (by rw [List.length_take]; omega)
theorem Good.filter {ds : List Dd} (g : Good ds) (p : Dd → Bool) : Good (ds.filter p) := g.sub (fun x hx => (List.mem_filter.mp hx).1) (List.length_filter_le ..)
theorem ins_rcd {C : Addr} {M : Mp} {r : Rc} {fs : List (Str × D)} : InsOf C M (rcd C r) fs ↔ fs = flds r := by
  constructor
  · intro h
    unfold rcd at h
    cases h
    rfl
  · rintro rfl
    exact .still _ _
theorem eqb_so {n : Str} {o : Option Str} : D.eqb (.str n) (optD o) = decide (o = some n) := by
  unfold D.eqb
  congr 1
  cases o with
  | none => simp [optD]
  | some m => simp [optD]; exact eq_comm
def lastN (l : List Rc) : Option Str := l.getLast?.map Rc.name
def cntN (l : List Rc) (n : Str) : Nat := (l.filter fun s => decide (s.name = n)).length
def lastC (l : List Rc) : Nat := match lastN l with
  | none => 0
  | some n => cntN l n
theorem lastN_snoc (l : List Rc) (r : Rc) : lastN (l ++ [r]) = some r.name := by simp [lastN]
theorem lastC_snoc (l : List Rc) (r : Rc) : lastC (l ++ [r]) = cntN l r.name + 1 := by
  unfold lastC
  rw [lastN_snoc]
  simp [cntN]
theorem last_yes {l : List Rc} {n : Str} (h : lastN l = some n) : lastC l = cntN l n ∧ 0 < cntN l n := by
  refine ⟨by unfold lastC; rw [h], ?_⟩
  unfold lastN at h
  obtain ⟨r, hr, e⟩ := Option.map_eq_some_iff.mp h
  have : r ∈ l.filter fun s => decide (s.name = n) := List.mem_filter.mpr ⟨List.mem_of_getLast? hr, by simpa using e⟩
  exact List.length_pos_of_mem this
theorem last_no {l : List Rc} {r : Rc} (s : (l ++ [r]).Pairwise fun a b => rle a b = true) (h : lastN l ≠ some r.name) : cntN l r.name = 0 := by
  unfold cntN
  rcases List.eq_nil_or_concat l with e | ⟨p, q, e⟩
  · rw [e]; rfl
  · rw [List.concat_eq_append] at e
    subst e
    rw [together s fun z => h (by rw [lastN_snoc, z])]
    rfl
theorem shown_take {l : List Rc} {i : Nat} {r : Rc} (h : l[i]? = some r) : shown (l.take (i + 1)) = shown (l.take i) ++ [(shownAs r.name (cntN (l.take i) r.name), r)] := by
  rw [take_more h, shown_snoc]
  rfl
theorem sorted_take {l : List Rc} {i : Nat} {r : Rc} (s : l.Pairwise fun a b => rle a b = true) (h : l[i]? = some r) : (l.take i ++ [r]).Pairwise fun a b => rle a b = true := by
  rw [← take_more h]
  exact s.sublist (List.take_sublist _ _)
theorem cnt_lt {l : List Rc} {n : Str} {k : Nat} (h : l.length < k) : cntN l n < k := filter_lt h _
theorem log_ok {c : Nat} (h : c < 64) : ((c : Int) + 1).natAbs.log2 < 1920 := by
  have : ((c : Int) + 1).natAbs ≤ 64 := by omega
  exact Nat.lt_of_le_of_lt (Nat.log2_le_self _) (by omega)
end NF
namespace NF
open PySem L2 PySem.W PyProof.Rows

theorem join_signs (cs : List Nat) : (Txt.join "" (cs.map fun c => (⟨#[c]⟩ : Str))).cps.toList = cs := by
  have e : ∀ l : List (List Nat), TL.joinL [] l = l.flatten := by
    intro l
    induction l with
    | nil => rfl
    | cons a l ih =>
      cases l with
      | nil => simp [TL.joinL]
      | cons b l => simp only [TL.joinL, ih, List.nil_append, List.flatten_cons]
  rw [TL.join_eq]
  have := TL.tl_join "" (cs.map fun c => (⟨#[c]⟩ : Str))
  rw [show TL.tl "" = [] by decide +kernel, e, List.map_map] at this
  refine Eq.trans this ?_
  clear this
  induction cs with
  | nil => rfl
  | cons c cs ih => simp [TL.tl]; simpa using ih
theorem nameOk_join {cs : List Nat} (h1 : 1 ≤ cs.length) (h2 : cs.length ≤ 4) (h : ∀ c, c ∈ cs → 97 ≤ c ∧ c ≤ 122) : NameOk (Txt.join "" (cs.map fun c => (⟨#[c]⟩ : Str))) := by
  have e := join_signs cs
  refine ⟨?_, ?_, by rw [e]; exact h⟩
  · show 1 ≤ (Txt.join _ _).cps.size
    rw [← Array.length_toList, e]; exact h1
  · show (Txt.join _ _).cps.size ≤ 4
    rw [← Array.length_toList, e]; exact h2
theorem nok_a : NameOk "a" := by unfold NameOk; decide +kernel
theorem nok_b : NameOk "b" := by unfold NameOk; decide +kernel
theorem nok_ab : NameOk "ab" := by unfold NameOk; decide +kernel
theorem nok_zz : NameOk "zzzz" := by unfold NameOk; decide +kernel
theorem letters_len : (Str.ofString "abcdefghijklmnopqrstuvwxyz").length = 26 := by decide +kernel
theorem letter {j : Nat} (h : j < 26) : ∃ c, (Str.ofString "abcdefghijklmnopqrstuvwxyz").cps.toList[j]? = some c ∧ 97 ≤ c ∧ c ≤ 122 := by
  have : ∀ j, j < 26 → (Str.ofString "abcdefghijklmnopqrstuvwxyz").cps.toList[j]? = some (97 + j) := by decide +kernel
  exact ⟨_, this j h, by omega, by omega⟩
/-- found[deed[:2]] = deed -/
noncomputable def putDd (l : List Dd) (x : Dd) : List Dd := if (∃ y, y ∈ l ∧ y.key = x.key) then l.map (fun y => if y.key = x.key then x else y) else l ++ [x]
theorem kv_putDd (l : List Dd) (x : Dd) : putA (kvOf Dd.key Dd.d l) (kk x.key) x.d = kvOf Dd.key Dd.d (putDd l x) := by
  unfold putDd
  by_cases c : ∃ y, y ∈ l ∧ y.key = x.key
  · rw [if_pos c]
    unfold putA
    rw [if_pos]
    · unfold kvOf
      rw [List.map_map, List.map_map]
      refine List.map_congr_left fun y hy => ?_
      simp only [Function.comp_def]
      by_cases e : y.key = x.key
      · rw [if_pos (by rw [e]), if_pos e, e]
      · rw [if_neg (by rw [kk_inj]; exact e), if_neg e]
    · obtain ⟨y, hy, e⟩ := c
      simp only [kvOf, List.any_map, List.any_eq_true]
      exact ⟨y, hy, by simp [e]⟩
  · rw [if_neg c]
    exact put_new fun y hy e => c ⟨y, hy, e⟩
structure Deeds (l : List Dd) : Prop where
  ok : ∀ x, x ∈ l → x.ok
  nd : (l.map Dd.key).Nodup
theorem Deeds.put {l : List Dd} {x : Dd} (h : Deeds l) (o : x.ok) : Deeds (putDd l x) ∧ (putDd l x).length ≤ l.length + 1 := by
  unfold putDd
  split
  · refine ⟨⟨fun y hy => ?_, ?_⟩, by simp⟩
    · obtain ⟨z, hz, rfl⟩ := List.mem_map.mp hy
      split
      · exact o
      · exact h.ok z hz
    · rw [List.map_map, show (l.map (Dd.key ∘ fun y => if y.key = x.key then x else y)) = l.map Dd.key from List.map_congr_left fun y _ => by
        simp only [Function.comp_def]
        split
        · exact Eq.symm ‹_›
        · rfl]
      exact h.nd
  · rename_i c
    refine ⟨⟨fun y hy => ?_, ?_⟩, by simp⟩
    · rcases List.mem_append.mp hy with z | z
      · exact h.ok y z
      · rw [List.mem_singleton.mp z]; exact o
    · rw [List.map_append, List.nodup_append]
      refine ⟨h.nd, by simp, fun a ha b hb e => ?_⟩
      obtain ⟨y, hy, rfl⟩ := List.mem_map.mp ha
      rw [List.mem_singleton.mp hb] at e
      exact c ⟨y, hy, e⟩
theorem Deeds.one {l : List Dd} (h : Deeds l) : ∀ x y, x ∈ l → y ∈ l → x.key = y.key → x = y := by
  have nd := h.nd
  clear h
  induction l with
  | nil => intro x y hx; cases hx
  | cons a l ih =>
    intro x y hx hy e
    simp only [List.map_cons, List.nodup_cons] at nd
    rcases List.mem_cons.mp hx with z | z <;> rcases List.mem_cons.mp hy with u | u
    · rw [z, u]
    · exact absurd (List.mem_map.mpr ⟨y, u, by rw [← e, z]⟩) nd.1
    · exact absurd (List.mem_map.mpr ⟨x, z, by rw [e, u]⟩) nd.1
    · exact ih nd.2 x y z u e
theorem Deeds.nodup {l : List Dd} (h : Deeds l) : l.Nodup := (List.pairwise_map.mp h.nd).imp fun ne e => ne (congrArg Dd.key e)
theorem Deeds.good {l : List Dd} (h : Deeds l) (few : l.length < 64) : Good l := ⟨h.ok, h.one, few⟩
theorem lt_key {M : Mp} {Φ : KD} {a b c d : Int} : aLt (.tup [.int a, .int b]) (.tup [.int c, .int d]) M Φ ↔ Φ (.bl (HT.lexLt [a, b] [c, d])) M := by
  unfold aLt
  constructor
  · rintro (⟨x, y, e1, e2, h⟩ | ⟨x, y, e1, e2, h⟩)
    · cases e1
    · have i1 : x = [a, b] := by
        have : x.map D.int = [a, b].map D.int := (D.tup.inj e1).symm
        exact (List.map_inj_right fun _ _ z => D.int.inj z).mp this
      have i2 : y = [c, d] := by
        have : y.map D.int = [c, d].map D.int := (D.tup.inj e2).symm
        exact (List.map_inj_right fun _ _ z => D.int.inj z).mp this
      rw [i1, i2] at h
      exact h
  · exact fun h => .inr ⟨[a, b], [c, d], rfl, rfl, h⟩
theorem eqk_keys (ks : List Ky) : D.eqOk (.lst (ks.map Ky.d)) := by
  refine ⟨?_, ?_⟩
  · simp only [D.plain, D.plainAll_iff, List.all_eq_true]
    intro d hd
    obtain ⟨k, _, rfl⟩ := List.mem_map.mp hd
    exact eqk_key.1
  · simp only [D.deep]
    have : D.deepAll (ks.map Ky.d) ≤ 1 := by
      induction ks with
      | nil => simp [D.deepAll]
      | cons k ks ih =>
        have e : D.deep (Ky.d k) = 1 := by simp [D.deep, D.deepAll]
        simp only [List.map_cons, D.deepAll, e]
        omega
    omega
theorem eqk_nil : D.eqOk (.lst []) := eqk_keys []
theorem eqb_nil {l : List D} : D.eqb (.lst l) (.lst []) = l.isEmpty := by
  unfold D.eqb
  cases l <;> simp
/-- for k in range(n), n drawn -/
theorem for_any {wi : WI} {T : Tg} {wb : WS} {R : AE} {Γ : Ctx} {M : Mp} (J : Nat → Ctx → Mp → Prop) (N : Nat → Prop) (hi : ∀ Ψ : List D → (Mp → Prop) → Mp → Prop, (∀ n M1, N n → J 0 Γ M1 → Ψ ((List.range n).map fun (i : Nat) => D.int i) (fun _ => True) M1) → wi Γ M Ψ)
    (step : ∀ n i Γ' M', N n → i < n → J i Γ' M' → ∃ Γ2, T.put (.int i) Γ' = some Γ2 ∧ wb { R with nx := J (i + 1), ct := J (i + 1), bk := R.nx } Γ2 M') (fin : ∀ n Γ' M', N n → J n Γ' M' → R.nx Γ' M') : wFor wi T wb R Γ M := by
  refine hi _ fun n M1 hn h0 => forP (List.range n) (fun (i : Nat) => D.int i) J h0 (fun _ _ _ _ => trivial) (fun i x Γ' M' hx hj => ?_) fun Γ' M' hj => fin n Γ' M' hn (by rw [List.length_range] at hj; exact hj)
  obtain ⟨hi', e⟩ := List.getElem?_eq_some_iff.mp hx
  simp only [List.getElem_range, List.length_range] at e hi'
  subst e
  exact step n i Γ' M' hn hi' hj
end NF
namespace NF
open PySem L2 PySem.W PyProof.Rows

def isDrop : Dd → Bool
  | .drop _ _ => true
  | _ => false
def nmOf : Dd → Option (Ky × Str)
  | .name k _ n => some (k, n)
  | _ => none
def wtOf : Dd → Option Int
  | .worth _ _ w => some w
  | _ => none
noncomputable def stepN (s p : Ky × Str) : Ky × Str := if s.2 = p.2 then (s.1, p.2) else p
theorem upd1_parts {r : Rc} {x : Dd} (h : x.at_ = some r.key) : (upd1 r x).gone = (r.gone || isDrop x) ∧ (upd1 r x).worth = (wtOf x).getD r.worth ∧ ((upd1 r x).since, (upd1 r x).name) = (match nmOf x with | some p => stepN (r.since, r.name) p | none => (r.since, r.name)) := by
  cases x with
  | new _ _ _ => simp [Dd.at_] at h
  | name k a n =>
    simp only [Dd.at_, Option.some.injEq] at h
    simp only [upd1, if_pos h, isDrop, wtOf, nmOf, stepN, Bool.or_false, Option.getD_none, true_and]
    split <;> rfl
  | worth k a w =>
    simp only [Dd.at_, Option.some.injEq] at h
    simp [upd1, if_pos h, isDrop, wtOf, nmOf]
  | drop k a =>
    simp only [Dd.at_, Option.some.injEq] at h
    simp [upd1, if_pos h, isDrop, wtOf, nmOf]
theorem getLast_cons_getD {α : Type} (a b : α) (l : List α) : (a :: b :: l).getLast? = (b :: l).getLast? := by simp [List.getLast?_cons]
theorem fold_parts : ∀ {l : List Dd} {r : Rc}, (∀ x, x ∈ l → x.at_ = some r.key) → (rowsAt l r).gone = (r.gone || l.any isDrop) ∧ (r.worth :: l.filterMap wtOf).getLast? = some (rowsAt l r).worth ∧ ((rowsAt l r).since, (rowsAt l r).name) = (l.filterMap nmOf).foldl stepN (r.since, r.name)
  | [], r, _ => by simp [rowsAt]
  | x :: l, r, h => by
    have hx := h x (by simp)
    obtain ⟨h1, h2, h3⟩ := upd1_parts hx
    have ih := fold_parts (l := l) (r := upd1 r x) fun y hy => by rw [upd1_key]; exact h y (by simp [hy])
    have e : rowsAt (x :: l) r = rowsAt l (upd1 r x) := rfl
    rw [e]
    refine ⟨?_, ?_, ?_⟩
    · rw [ih.1, h1, List.any_cons, Bool.or_assoc]
    · rw [← ih.2.1, h2]
      cases hw : wtOf x with
      | none => rw [List.filterMap_cons_none hw]; rfl
      | some v => rw [List.filterMap_cons_some hw]; exact getLast_cons_getD _ _ _
    · rw [ih.2.2, h3]
      cases hn : nmOf x with
      | none => rw [List.filterMap_cons_none hn]
      | some p => rw [List.filterMap_cons_some hn, List.foldl_cons]
theorem fold_snd : ∀ (l : List (Ky × Str)) (s : Ky × Str), ((s :: l).getLast?).map (·.2) = some (l.foldl stepN s).2
  | [], s => rfl
  | p :: l, s => by
    rw [getLast_cons_getD, List.foldl_cons]
    have := fold_snd l (stepN s p)
    rw [← this]
    cases l with
    | nil => simp [stepN]; split <;> rfl
    | cons q l => rw [getLast_cons_getD, getLast_cons_getD]
theorem fold_same : ∀ (l : List (Ky × Str)) (s : Ky × Str), (∀ p, p ∈ l → p.2 = s.2) → l.foldl stepN s = s
  | [], s, _ => rfl
  | p :: l, s, h => by
    have e : stepN s p = s := by unfold stepN; rw [if_pos (h p (by simp)).symm, h p (by simp)]
    rw [List.foldl_cons, e]
    exact fold_same l s fun q hq => h q (by simp [hq])
/-- names[k] where all behind it are the same name, and the one ahead is another -/
theorem run_at {l : List (Ky × Str)} {s : Ky × Str} {k : Nat} {p : Ky × Str} (hp : (s :: l)[k]? = some p) (same : ∀ (j : Nat) q, k ≤ j → (s :: l)[j]? = some q → q.2 = p.2) (ahead : ∀ (j : Nat) q, j + 1 = k → (s :: l)[j]? = some q → q.2 ≠ p.2) : l.foldl stepN s = p := by
  cases k with
  | zero =>
    simp at hp
    subst hp
    refine fold_same l s fun q hq => ?_
    obtain ⟨j, hj, e⟩ := List.getElem_of_mem hq
    exact same (j + 1) q (Nat.zero_le _) (by simp [List.getElem?_eq_getElem hj, e])
  | succ k =>
    have hp' : l[k]? = some p := by simpa using hp
    obtain ⟨hk, ek⟩ := List.getElem?_eq_some_iff.mp hp'
    have split : l = l.take k ++ p :: l.drop (k + 1) := by
      have h1 := List.take_append_drop k l
      have h2 : l.drop k = p :: l.drop (k + 1) := by rw [List.drop_eq_getElem_cons hk, ek]
      rw [h2] at h1
      exact h1.symm
    rw [split, List.foldl_append, List.foldl_cons]
    have snd := fold_snd (l.take k) s
    have ne : ((l.take k).foldl stepN s).2 ≠ p.2 := by
      obtain ⟨q, hq, e⟩ := Option.map_eq_some_iff.mp snd
      rw [← e]
      refine ahead k q rfl ?_
      have : s :: l.take k = (s :: l).take (k + 1) := rfl
      rw [this, List.getLast?_eq_getElem?, List.length_take, List.getElem?_take] at hq
      have hm : min (k + 1) (s :: l).length - 1 = k := by simp; omega
      rw [hm, if_pos (by omega)] at hq
      exact hq
    rw [show stepN ((l.take k).foldl stepN s) p = p from if_neg ne]
    refine fold_same _ p fun q hq => ?_
    obtain ⟨j, hj, e⟩ := List.getElem_of_mem hq
    rw [List.getElem_drop] at e
    rw [List.length_drop] at hj
    refine same (k + 1 + j + 1) q (by omega) ?_
    simp only [List.getElem?_cons_succ]
    rw [List.getElem?_eq_getElem (by omega), e]
noncomputable def aboutL (ds : List Dd) (k : Ky) : List Dd := ds.filter fun y => decide (y.at_ = some k)
theorem mine_eq {ds : List Dd} (g : Good ds) (nd : ds.Nodup) (k : Ky) : ((aboutL ds k).mergeSort fun a b => kle a.key b.key) = aboutL (ordd ds) k := by
  refine List.Perm.eq_of_pairwise (le := fun a b : Dd => kle a.key b.key = true) (fun a b ha hb h1 h2 => ?_) (List.pairwise_mergeSort (le := fun a b : Dd => kle a.key b.key) (fun a b c => kle_trans a.key b.key c.key) (fun a b => kle_total a.key b.key) _) ((ordd_sorted ds).filter _) ?_
  · have ma := (List.mergeSort_perm _ _).mem_iff.mp ha
    exact g.one a b (List.mem_filter.mp ma).1 (mem_ordd.mp (List.mem_filter.mp hb).1) (kle_anti h1 h2)
  · refine (List.mergeSort_perm _ _).trans (List.Perm.filter _ ?_)
    have := ordd_perm ds
    rw [uniq_same nd] at this
    exact this.symm
noncomputable def alive (ds : List Dd) (x : Dd) : Option Rc := (made x).bind fun r => if (rowsAt (ordd ds) r).gone = true then none else some (rowsAt (ordd ds) r)
theorem alive_perm {ds : List Dd} (nd : ds.Nodup) : (ds.filterMap (alive ds)).Perm ((rows ds).filter fun r => !r.gone) := by
  have e : (rows ds).filter (fun r => !r.gone) = (ordd ds).filterMap (alive ds) := by
    have go : ∀ L l : List Dd, ((l.filterMap made).map (rowsAt L)).filter (fun r => !r.gone) = l.filterMap fun x => (made x).bind fun r => if (rowsAt L r).gone = true then none else some (rowsAt L r) := by
      intro L l
      induction l with
      | nil => rfl
      | cons x l ih =>
        cases hm : made x with
        | none => rw [List.filterMap_cons_none hm, List.filterMap_cons_none (by rw [hm]; rfl), ih]
        | some r =>
          rw [List.filterMap_cons_some hm, List.map_cons, List.filter_cons]
          cases hg : (rowsAt L r).gone with
          | true => rw [List.filterMap_cons_none (by rw [hm]; simp [hg]), ← ih]; simp
          | false => rw [List.filterMap_cons_some (b := rowsAt L r) (by rw [hm]; simp [hg]), ← ih]; simp
    exact go (ordd ds) (ordd ds)
  rw [e]
  have := ordd_perm ds
  rw [uniq_same nd] at this
  exact this.symm.filterMap _
def ltup (r : Rc) : D := .tup [.str r.name, Ky.d r.since, Ky.d r.key, .int r.worth]
theorem py_ltup (r : Rc) : D.py (ltup r) = .tuple [.str r.name, .tuple [.int r.since.1, .int r.since.2], .tuple [.int r.key.1, .int r.key.2], .int r.worth] := by simp [ltup, D.py, D.pyAll]
theorem dle_ltup {a b : Rc} (h : a.since = b.since → a = b) : dle (ltup a) (ltup b) = rle a b := by
  unfold dle rle
  rw [dataLe_eq, py_ltup, py_ltup]
  by_cases e : a = b
  · subst e
    have t1 := ple_total (.tuple [.str a.name, .tuple [.int a.since.1, .int a.since.2], .tuple [.int a.key.1, .int a.key.2], .int a.worth]) (.tuple [.str a.name, .tuple [.int a.since.1, .int a.since.2], .tuple [.int a.key.1, .int a.key.2], .int a.worth])
    have t2 := ple_total (rkey a) (rkey a)
    simp only [Bool.or_self] at t1 t2
    rw [t1, t2]
  · have ne : b.since ≠ a.since := fun z => e (h z.symm)
    unfold ple rkey
    congr 1
    rw [dataLt_tuple, dataLt_tuple]
    by_cases en : PyData.eqv (.str b.name) (.str a.name) = true
    · rw [dataLt_all_yes (by simp [alike]) en, dataLt_all_yes (by simp [alike]) en]
      have es : PyData.eqv (.tuple [.int b.since.1, .int b.since.2]) (.tuple [.int a.since.1, .int a.since.2]) = false := by
        cases z : PyData.eqv (.tuple [.int b.since.1, .int b.since.2]) (.tuple [.int a.since.1, .int a.since.2]) with
        | false => rfl
        | true =>
          have := (D.eqv_py (Ky.d b.since) (Ky.d a.since) eqk_key.1 eqk_key.1).mp (by rw [py_ky, py_ky]; exact z)
          simp only [D.tup.injEq, List.cons.injEq, D.int.injEq, and_true] at this
          exact absurd (Prod.ext this.1 this.2) ne
      rw [dataLt_all_no (by simp [alike, alikeAll]) es, dataLt_all_no (by simp [alike, alikeAll]) es]
    · have en' : PyData.eqv (.str b.name) (.str a.name) = false := by simpa using en
      rw [dataLt_all_no (by simp [alike]) en', dataLt_all_no (by simp [alike]) en']
theorem sortOk_ltup {l : List Rc} (h : ∀ r, r ∈ l → r.ok) : SortOk (l.map ltup) := by
  refine ⟨fun d hd => ?_, ?_, ?_, ?_⟩
  · obtain ⟨x, hx, rfl⟩ := List.mem_map.mp hd
    simp [ltup, D.plain, D.plainAll, D.deep, D.deepAll, nameOk_str (h x hx).2.1]
  · intro d hd
    obtain ⟨e, he, rfl⟩ := List.mem_map.mp hd
    obtain ⟨x, hx, rfl⟩ := List.mem_map.mp he
    exact ⟨_, _, py_ltup x⟩
  · intro x r x' r' h1 h2
    obtain ⟨e, he, e1⟩ := List.mem_map.mp h1
    obtain ⟨u, hu, rfl⟩ := List.mem_map.mp he
    obtain ⟨e', he', e2⟩ := List.mem_map.mp h2
    obtain ⟨v, hv, rfl⟩ := List.mem_map.mp he'
    rw [py_ltup] at e1 e2
    cases e1
    cases e2
    simp [alike]
  · intro l l' h1 h2
    obtain ⟨e, he, e1⟩ := List.mem_map.mp h1
    obtain ⟨u, hu, rfl⟩ := List.mem_map.mp he
    obtain ⟨e', he', e2⟩ := List.mem_map.mp h2
    obtain ⟨v, hv, rfl⟩ := List.mem_map.mp he'
    rw [py_ltup] at e1 e2
    cases e1
    cases e2
    exact alikeTo_all (by simp [alike, alikeAll])
theorem rows_since {ds : List Dd} (g : Good ds) {a b : Rc} (ha : a ∈ rows ds) (hb : b ∈ rows ds) (e : a.since = b.since) : a = b := by
  obtain ⟨r, hr, rfl⟩ := List.mem_map.mp ha
  obtain ⟨s, hs, rfl⟩ := List.mem_map.mp hb
  obtain ⟨x, hx, e1⟩ := List.mem_filterMap.mp hr
  obtain ⟨y, hy, e2⟩ := List.mem_filterMap.mp hs
  rw [since_inj g (mem_ordd.mp hx) (mem_ordd.mp hy) e1 e2 (fun z hz => mem_ordd.mp hz) e]
theorem lthere_eq {ds : List Dd} (g : Good ds) (nd : ds.Nodup) : ((ds.filterMap (alive ds)).map ltup).mergeSort dle = (there ds).map ltup := by
  have p := alive_perm nd
  have mem : ∀ r, r ∈ ds.filterMap (alive ds) → r ∈ rows ds := fun r hr => (List.mem_filter.mp (p.mem_iff.mp hr)).1
  rw [← there_of g p]
  exact (List.map_mergeSort fun a ha b hb => (dle_ltup fun z => rows_since g (mem a ha) (mem b hb) z).symm).symm
theorem alive_sort {ds : List Dd} (g : Good ds) (nd : ds.Nodup) : SortOk ((ds.filterMap (alive ds)).map ltup) := sortOk_ltup fun r hr => rows_ok g (fun x h => h) (List.mem_filter.mp ((alive_perm nd).mem_iff.mp hr)).1
/-- a row by the deeds about it -/
theorem rowsAt_mine {ds : List Dd} {r : Rc} : rowsAt (aboutL (ordd ds) r.key) r = rowsAt (ordd ds) r := fold_mine r (ordd ds)
section
variable {M : Mp} {Φ : KD} {k a : Ky} {n : Str} {z : Int}
theorem wd_new : (Dd.new k n z).word = "new" := rfl
theorem wd_name : (Dd.name k a n).word = "name" := rfl
theorem wd_worth : (Dd.worth k a z).word = "worth" := rfl
theorem wd_drop : (Dd.drop k a).word = "drop" := rfl
theorem ix_n3 : aIx (Dd.new k n z).d (.int 3) M Φ ↔ Φ (.str n) M := by unfold Dd.d; rw [ix_tup, atI_3]; simp [Dd.tl]
theorem ix_n4 : aIx (Dd.new k n z).d (.int 4) M Φ ↔ Φ (.int z) M := by unfold Dd.d; rw [ix_tup, atI_4]; simp [Dd.tl]
theorem ix_m3 : aIx (Dd.name k a n).d (.int 3) M Φ ↔ Φ (Ky.d a) M := by unfold Dd.d; rw [ix_tup, atI_3]; simp [Dd.tl]
theorem ix_m4 : aIx (Dd.name k a n).d (.int 4) M Φ ↔ Φ (.str n) M := by unfold Dd.d; rw [ix_tup, atI_4]; simp [Dd.tl]
theorem ix_w3 : aIx (Dd.worth k a z).d (.int 3) M Φ ↔ Φ (Ky.d a) M := by unfold Dd.d; rw [ix_tup, atI_3]; simp [Dd.tl]
theorem ix_w4 : aIx (Dd.worth k a z).d (.int 4) M Φ ↔ Φ (.int z) M := by unfold Dd.d; rw [ix_tup, atI_4]; simp [Dd.tl]
theorem ix_d3 : aIx (Dd.drop k a).d (.int 3) M Φ ↔ Φ (Ky.d a) M := by unfold Dd.d; rw [ix_tup, atI_3]; simp [Dd.tl]
end
theorem filter_pick {α β γ : Type} (f : α → Option β) (g : α → γ) (h : β → γ) (e : ∀ x y, f x = some y → g x = h y) : ∀ l : List α, (l.filter fun x => (f x).isSome).map g = (l.filterMap f).map h
  | [] => rfl
  | x :: l => by
    rw [List.filter_cons]
    cases hx : f x with
    | none => rw [List.filterMap_cons_none hx, if_neg (by simp), filter_pick f g h e l]
    | some y => rw [List.filterMap_cons_some hx, if_pos (by simp), List.map_cons, List.map_cons, e x y hx, filter_pick f g h e l]
def nmD (p : Ky × Str) : D := .tup [Ky.d p.1, .str p.2]
theorem about_sort {xs : List Dd} (g : Good xs) (nd : xs.Nodup) (k : Ky) : ((aboutL xs k).map Dd.d).mergeSort dle = (aboutL (ordd xs) k).map Dd.d := by
  rw [sorted_dd (xs := aboutL xs k) fun x y hx hy => g.one x y (List.mem_filter.mp hx).1 (List.mem_filter.mp hy).1, mine_eq g nd]
theorem and_pure {ta tb : WT} {Γ : Ctx} {M : Mp} {Ψ : Bool → Mp → Prop} (b1 b2 : Bool) (h1 : ∀ Ψ : Bool → Mp → Prop, Ψ b1 M → ta Γ M Ψ) (h2 : b1 = true → ∀ Ψ : Bool → Mp → Prop, Ψ b2 M → tb Γ M Ψ) (h : Ψ (b1 && b2) M) : wAnd ta tb Γ M Ψ := by
  refine h1 _ ⟨fun e => h2 e _ (by rw [e] at h; exact h), fun e => ?_⟩
  rw [e] at h
  exact h
theorem eqk_list {l : List D} (h : ∀ d, d ∈ l → D.plain d = true ∧ D.deep d ≤ 60) : D.eqOk (.lst l) := by
  refine ⟨?_, ?_⟩
  · simp only [D.plain, D.plainAll_iff, List.all_eq_true]
    exact fun d hd => (h d hd).1
  · simp only [D.deep]
    have : D.deepAll l ≤ 60 := by
      induction l with
      | nil => simp [D.deepAll]
      | cons d l ih =>
        have h1 := (h d (by simp)).2
        have h2 := ih fun e he => h e (by simp [he])
        simp only [D.deepAll]
        omega
    omega
theorem eqk_dds {l : List Dd} (h : ∀ x, x ∈ l → x.ok) : D.eqOk (.lst (l.map Dd.d)) := eqk_list fun d hd => by
  obtain ⟨x, hx, rfl⟩ := List.mem_map.mp hd
  exact plain_dd (h x hx)
def J_run (d : D) (q : Addr) (xd md : D) (N : List (Ky × Str)) (v6 v7 : Option D) (M0 : Mp) (m : Nat) (Γ' : Ctx) (M' : Mp) : Prop := Γ' = [some d, some (.op (.ref q)), some xd, some md, some (.lst (N.map nmD)), some (.int m), v6, v7] ∧ M' = M0 ∧ m < N.length ∧ ∀ (j : Nat) p p', m ≤ j → N[j]? = some p → N[m]? = some p' → p.2 = p'.2
theorem at_nm {N : List (Ky × Str)} {m : Nat} {p : Ky × Str} (h : N[m]? = some p) : atI (N.map nmD) (m : Int) = some (nmD p) := by
  rw [atI_nat, List.getElem?_map, h]
  rfl
theorem w_ed : ("new" : Str) ≠ "drop" := by decide +kernel
theorem w_em : ("new" : Str) ≠ "name" := by decide +kernel
theorem w_ew : ("new" : Str) ≠ "worth" := by decide +kernel
theorem ix_nm0 {M : Mp} {Φ : KD} {p : Ky × Str} : aIx (nmD p) (.int 0) M Φ ↔ Φ (Ky.d p.1) M := by unfold nmD; rw [ix_tup, atI_0]; simp
theorem ix_nm1 {M : Mp} {Φ : KD} {p : Ky × Str} : aIx (nmD p) (.int 1) M Φ ↔ Φ (.str p.2) M := by unfold nmD; rw [ix_tup, atI_1]; simp
end NF
namespace NF
open PySem L2 PySem.W PyProof.Rows

theorem for_ints {wi : WI} {T : Tg} {wb : WS} {R : AE} {Γ : Ctx} {M : Mp} (J : Nat → Ctx → Mp → Prop) (hi : ∀ Ψ : List D → (Mp → Prop) → Mp → Prop, (∀ (l : List Int) (S : Mp → Prop) M1, (∀ M', S M') → J 0 Γ M1 → Ψ (l.map D.int) S M1) → wi Γ M Ψ)
    (step : ∀ (i : Nat) (x : Int) Γ' M', J i Γ' M' → ∃ Γ2, T.put (.int x) Γ' = some Γ2 ∧ wb { R with nx := J (i + 1), ct := J (i + 1), bk := R.nx } Γ2 M') (fin : ∀ i Γ' M', J i Γ' M' → R.nx Γ' M') : wFor wi T wb R Γ M := by
  refine hi _ fun l S M1 hS h0 => forP l D.int J h0 (fun _ _ _ _ => hS _) (fun i x Γ' M' hx hj => step i x Γ' M' hj) fun Γ' M' hj => fin _ Γ' M' hj
theorem sorted_all {xs : List Dd} (h : Deeds xs) : (xs.map Dd.d).mergeSort dle = (ordd xs).map Dd.d := by
  rw [sorted_dd h.one]
  unfold ordd
  rw [uniq_same h.nodup]
theorem Deeds.sub {l m : List Dd} (h : Deeds l) (s : m.Sublist l) : Deeds m := ⟨fun x hx => h.ok x (s.subset hx), (s.map Dd.key).nodup h.nd⟩
theorem Deeds.ordd {l : List Dd} (h : Deeds l) : Deeds (ordd l) := by
  have p := ordd_perm l
  rw [uniq_same h.nodup] at p
  exact ⟨fun x hx => h.ok x (p.mem_iff.mp hx), (p.map Dd.key).nodup_iff.mpr h.nd⟩
theorem Deeds.len {l : List Dd} (h : Deeds l) : (NF.ordd l).length = l.length := by
  have p := ordd_perm l
  rw [uniq_same h.nodup] at p
  exact p.length_eq
theorem now_table {M : Mp} {xs : List Dd} {e : D} : Now M (tableD xs) e ↔ e = tableD xs := now_lst
theorem eqb_self {d : D} : D.eqb d d = true := D.eqb_true.mpr rfl
def isNew : Dd → Bool
  | .new _ _ _ => true
  | _ => false
theorem hist_last (row : List Dd) (k : Ky) : ∀ i, i ≤ row.length → ((hist row k i).getLast?).elim none (·.2) = nameOf (row.take i) k
  | 0, _ => by
    rw [List.take_zero, nameOf_nil]
    rfl
  | i + 1, hi => by
    have ih := hist_last row k i (by omega)
    have e : row[i]? = some row[i] := List.getElem?_eq_getElem (by omega)
    show ((match row[i]? with | some x => _ | none => _ : List (Ky × Option Str)).getLast?).elim none (·.2) = _
    rw [e]
    dsimp only
    split
    · rename_i c
      rw [ih, c]
    · simp
theorem good_rev {xs : List Dd} (g : Good xs) : Good xs.reverse := g.sub (fun x hx => by simpa using hx) (by simp)
theorem ordd_rev {xs : List Dd} (g : Good xs) : ordd xs.reverse = ordd xs := (ordd_eq g fun x => by simp).symm
theorem filter_all {xs : List Dd} (h : Deeds xs) : (xs.filter fun x => decide (x.key.1 ≤ 999)) = xs := List.filter_eq_self.mpr fun x hx => by
  have := (h.ok x hx).key
  simpa using this.2.1
theorem eqk_pair {p : Ky × Option Str} (h : ∀ s, p.2 = some s → PyData.strOk s = true) : D.plain (pairD p) = true ∧ D.deep (pairD p) ≤ 60 := by
  obtain ⟨k, o⟩ := p
  cases o with
  | none => simp [pairD, optD, D.plain, D.plainAll, D.deep, D.deepAll]
  | some s => simp [pairD, optD, D.plain, D.plainAll, D.deep, D.deepAll, h s rfl]
theorem hist_ok {row : List Dd} (g : Good row) (k : Ky) : ∀ i p, p ∈ hist row k i → ∀ s, p.2 = some s → PyData.strOk s = true
  | 0, p, h => by cases h
  | i + 1, p, h => by
    have ih := hist_ok g k i
    have go : ∀ o : Option Dd, p ∈ (match o with | some x => if nameOf (row.take (i + 1)) k = nameOf (row.take i) k then hist row k i else hist row k i ++ [(x.key, nameOf (row.take (i + 1)) k)] | none => hist row k i) → ∀ s, p.2 = some s → PyData.strOk s = true := by
      intro o ho
      cases o with
      | none => exact ih p ho
      | some x =>
        dsimp only at ho
        split at ho
        · exact ih p ho
        · rcases List.mem_append.mp ho with z | z
          · exact ih p z
          · rw [List.mem_singleton.mp z]
            exact nameOf_ok (g.take (i + 1))
    exact go _ h
theorem eqk_hist {row : List Dd} (g : Good row) (k : Ky) (i : Nat) : D.eqOk (.lst ((hist row k i).map pairD)) := eqk_list fun d hd => by
  obtain ⟨p, hp, rfl⟩ := List.mem_map.mp hd
  exact eqk_pair (hist_ok g k i p hp)
theorem ix_pair1 {M : Mp} {Φ : KD} {p : Ky × Option Str} : aIx (pairD p) (.int 1) M Φ ↔ Φ (optD p.2) M := by unfold pairD; rw [ix_tup, atI_1]; simp
end NF
namespace NF
open PySem L2

section
variable {X : Cx} {o i f : Expr} {wd wk wz : WE} {pos apos cpos : Pos}
theorem d_dget2 (hu : X.A.units + 1 < cLine) (ho : PD X o wd) (hi : PD X i wk) (hf : PD X f wz) (m : M2 X o "get" apos i f cpos := by exact ⟨rfl, rfl, rfl, rfl⟩) : PD X (.Call (.Attribute o "get" apos) [i, f] [] cpos) (wDGet2 wd wk wz) := PE.weak (pe_dget2 hu ho hi hf m) fun σ H Q ⟨Γ, M, P, Φ, s, a, h, q⟩ =>
  ⟨Γ, M, P, _, s, a, h, fun d1 M1 ⟨⟨kvs0, n0⟩, h1⟩ v1 P1 H1 g1 r1 => by
    obtain ⟨c0, vs0, e0, hc0, _⟩ := n0.rd g1.sat r1
    subst e0
    refine ⟨c0, rfl, .inr ⟨_, hc0⟩, Γ, M1, P1, _, s.up g1.le, g1.sat, h1, fun d2 M2 h2 v2 P2 H2 g2 r2 => ⟨Γ, M2, P2, _, s.up (g1.le.trans g2.le), g2.sat, h2, fun d3 M3 ⟨key, kvs, e, n, h3⟩ v3 P3 H3 g3 r3 => ?_⟩⟩
    subst e
    obtain ⟨b, rfl, hb⟩ := key_at g3.sat (r2.up g3.le)
    obtain ⟨c, vs, ec, hc, hk⟩ := n.rd g3.sat (r1.up (g2.le.trans g3.le))
    cases ec
    refine ⟨_, .inr ⟨vs, key, b, hc, rfl, hb, rfl⟩, ?_⟩
    refine (q.mk ((g1.trans g2).trans g3)).here g3.sat h3 ?_
    cases el : lookA kvs key with
    | none => rw [hk.look.2 el]; exact r3
    | some d =>
      obtain ⟨v, hv, rv⟩ := hk.look.1 d el
      rw [hv]
      exact rv⟩
end
/-- xs * n -/
def aRep : AR2 := fun x y M Φ => ∃ (xs : List D) (n : Nat), x = .lst xs ∧ y = .int n ∧ n < 1000 ∧ xs.length * n ≤ sizeLine ∧ Φ (.lst (List.replicate n xs).flatten) M
theorem RepAll.flat {K : PySem.W.Frag} {P : Hp} {vs : List V} {ds : List D} (r : RepAll K P vs ds) : ∀ n : Nat, RepAll K P (List.replicate n vs).flatten (List.replicate n ds).flatten
  | 0 => .nil
  | n + 1 => by
    rw [List.replicate_succ, List.replicate_succ, List.flatten_cons, List.flatten_cons]
    exact r.append (RepAll.flat r n)
section
variable {X : Cx}
theorem o_rep : OpR X (binaryOp .Mult) (rOf X.K aRep) := OpR.weak op_rep fun x y H Q ⟨d, e, M, P, Φ, r1, r2, s, ⟨xs, n, e1, e2, hn, hl, h⟩, q⟩ => by
  subst e1 e2
  cases r2
  cases r1 with
  | @lst b vs _ t al =>
    have len := al.length
    refine ⟨b, n, vs, rfl, rfl, s.sub.lst t, by omega, by omega, by rw [Int.toNat_natCast, len]; exact hl, fun p hp => ?_⟩
    rw [Int.toNat_natCast]
    exact q _ _ h _ _ _ (Grow.laid s hp) (.lst upd_same (RepAll.flat (al.up (Le.new (s.sub.free hp))) n))
/-- a sum of two lists, owned -/
def aAddO : AR2 := fun x y M Φ => ∃ xs ys, Now M x (.lst xs) ∧ Now M y (.lst ys) ∧ xs.length + ys.length ≤ sizeLine ∧ ∀ p, p ∉ dom M → Φ (.op (.ref p)) ((p, MO.lst (xs ++ ys)) :: M)
theorem o_addO : OpR X (binaryOp .Add) (rOf X.K aAddO) := OpR.weak op_cat fun x y H Q ⟨d, e, M, P, Φ, r1, r2, s, ⟨xs, ys, n1, n2, hl, h⟩, q⟩ => by
  obtain ⟨b1, vs1, rfl, hb1, hr1⟩ := n1.sqL s r1
  obtain ⟨b2, vs2, rfl, hb2, hr2⟩ := n2.sqL s r2
  refine ⟨b1, b2, vs1, vs2, rfl, rfl, hb1, hb2, by rw [hr1.length, hr2.length]; exact hl, fun p hp => ?_⟩
  exact q _ _ (h p (nodom s hp)) _ _ _ (Grow.owned s hp ⟨_, upd_same, hr1.append hr2⟩) (.op _)
end
section
open PySem.SeqAt
theorem gt_two (l b : Addr) (items items2 : Array Value) (n n2 : Nat) (dd dd2 : Option Addr) (sl sl2 : Array (Option Value)) (a c a' c' : Int) (t1 t2 u1 u2 : Tok) (xs ys : List Value) (h1 : items.toList = .int a t1 :: .int c t2 :: xs) (h2 : items2.toList = .int a' u1 :: .int c' u2 :: ys) (ne : ¬ (a = a' ∧ c = c')) :
    Meets (Builtin.«tuple.__gt__» ⟨[.ref l, .ref b], []⟩) (fun A R s => s.heap.get? l = some { cls := .type "tuple", dict := dd, data := .seq items n, slots := sl } ∧ s.heap.get? b = some { cls := .type "tuple", dict := dd2, data := .seq items2 n2, slots := sl2 } ∧
      R (.ok (.ret (.bool (decide (a' < a ∨ (a' = a ∧ c' < c)))))) s) :=
  .of_wp fun prog w A R s h => by
    obtain ⟨hp, g, d, tk, os⟩ := s
    obtain ⟨hl, hb, h⟩ := h
    have f2 := AutoSeq1.sub_tuple_tuple
    wp_walk using wpAny_loadPart' hl, wpAny_loadPart' hb, wpAny_forIn_list _ (fun rest b s' => b.1 = none ∧ s' = ⟨hp, g, d, tk, os⟩ ∧ (rest = items.toList.zip items2.toList ∨ (a = a' ∧ ∃ zs, rest = (.int c t2, .int c' u2) :: zs))) _
    case turn =>
      rintro ⟨y, x⟩ rest b s' ⟨_, rfl, z⟩
      rcases z with z | ⟨ea, zs, z⟩
      · rw [h1, h2, List.zip_cons_cons, List.zip_cons_cons] at z
        injection z with z1 z2
        cases z1
        refine wpAny_bind (EqAt.int_int a t1 a' u1 prog w _ _ ?_)
        by_cases e : a = a'
        · subst e
          rw [show (a == a) = true by simp]
          wp_walk
          exact ⟨rfl, rfl, .inr ⟨rfl, _, z2⟩⟩
        · have e' : (a == a') = false := by simpa using e
          rw [e']
          have hri := Ob.RcOp.gt_int (A := A.in1) (s := ⟨hp, g, d, tk, os⟩) a a' t1 u1 prog w
          wp_walk using hri
          refine ⟨_, rfl, ?_⟩
          have e3 : decide (a' < a ∨ (a' = a ∧ c' < c)) = decide (a > a') := by
            congr 1
            exact propext ⟨fun z => by omega, fun z => by omega⟩
          rw [e3] at h
          simpa using h
      · injection z with z1 z2
        cases z1
        have e : c ≠ c' := fun z => ne ⟨ea, z⟩
        have e' : (c == c') = false := by simpa using e
        refine wpAny_bind (EqAt.int_int c t2 c' u2 prog w _ _ ?_)
        rw [e']
        have hri := Ob.RcOp.gt_int (A := A.in1) (s := ⟨hp, g, d, tk, os⟩) c c' t2 u2 prog w
        wp_walk using hri
        refine ⟨_, rfl, ?_⟩
        have e3 : decide (a' < a ∨ (a' = a ∧ c' < c)) = decide (c > c') := by
          congr 1
          exact propext ⟨fun z => by omega, fun z => by omega⟩
        rw [e3] at h
        simpa using h
    case fin =>
      rintro ⟨b1, b2⟩ s' ⟨_, rfl, z⟩
      exfalso
      rcases z with z | ⟨_, zs, z⟩
      · rw [h1, h2, List.zip_cons_cons] at z
        cases z
      · cases z
    case h => exact ⟨rfl, rfl, .inl (by simp)⟩
theorem rc_gt_two {A : Around} {s : Shared} {l b : Addr} {items items2 : Array Value} {a c a' c' : Int} {t1 t2 u1 u2 : Tok} {xs ys : List Value} (hl : s.heap.IsTuple l items) (hb : s.heap.IsTuple b items2) (hu : A.units < cLine) (h1 : items.toList = .int a t1 :: .int c t2 :: xs) (h2 : items2.toList = .int a' u1 :: .int c' u2 :: ys) (ne : ¬ (a = a' ∧ c = c')) :
    Ob.RcOp .Gt A s (.ref l) (.ref b) (decide (a' < a ∨ (a' = a ∧ c' < c))) := fun prog w E Q h => by
  obtain ⟨⟨cls, dd, data, sl⟩, ho, hc, n, hd⟩ := id hl
  obtain ⟨⟨cls2, dd2, data2, sl2⟩, ho2, hc2, n2, hd2⟩ := id hb
  simp only at hc hd hc2 hd2
  subst hc hd hc2 hd2
  exact richCompare_meets_room (op := .Gt) ⟨_, ho, rfl⟩ ⟨_, ho2, rfl⟩ F.slot_tuple_gt F.entry_tuple_gt (F.args_tuple_gt_2 _ _) (gt_two l b items items2 n n2 dd dd2 sl sl2 a c a' c' t1 t2 u1 u2 xs ys h1 h2 ne) ⟨ho, ho2, ⟨(fun x => nomatch x), h⟩⟩ hu
end
def aGtD : AR2 := fun x y M Φ => ∃ (a c a' c' : Int) (xs ys : List D), x = .tup (.int a :: .int c :: xs) ∧ y = .tup (.int a' :: .int c' :: ys) ∧ D.hashyAll xs = true ∧ D.deepAll xs ≤ 8 ∧ ((a = a' ∧ c = c') → xs = ys) ∧ Φ (.bl (decide (a' < a ∨ (a' = a ∧ c' < c)))) M
theorem nk_same : ∀ (ks : List NestedKey) (j : Nat), j < ks.length → keyEqAt ks ks j = true
  | k :: ks, 0, _ => by
    show NestedKey.beq k k = true
    rw [← NestedKey.decide_eq]
    simp
  | k :: ks, j + 1, h => nk_same ks j (by simpa using h)
section
variable {X : Cx}
theorem o_gtD (hu : X.A.units + 65 < cLine) : OpR X (compareOp .Gt) (rOf X.K aGtD) := by
  intro pins s σ H x y v u Q I rx ry ⟨dx, dy, M, P, Φ, r1, r2, sa, ⟨a, c, a', c', xs, ys, e1, e2, hh, hdp, hs, h⟩, q⟩
  subst e1 e2
  cases r1 with
  | tup t1 al1 =>
    cases r2 with
    | tup t2 al2 =>
      cases rx
      cases ry
      obtain ⟨its, w1, p1, _⟩ := I.tuple (SqT.of (sa.sub.tup t1))
      obtain ⟨its2, w2, p2, _⟩ := I.tuple (SqT.of (sa.sub.tup t2))
      have fin : EP X pins σ Q (.bool (decide (a' < a ∨ (a' = a ∧ c' < c)))) s := ⟨.bl _, H, I, rfl, q.here sa h (.bl _)⟩
      by_cases e : a = a' ∧ c = c'
      · obtain ⟨ea, ec⟩ := e
        subst ea ec
        have := hs ⟨rfl, rfl⟩
        subst this
        have hall : D.hashyAll (.int a :: .int c :: xs) = true := by simp [D.hashyAll, D.hashy, hh]
        have n1 := D.nkAll_is (s := s) I.hok sa.sub _ _ its hall al1 w1
        have n2 := D.nkAll_is (s := s) I.hok sa.sub _ _ its2 hall al2 w2
        have dep : NestedKey.depthAll (D.nkAll (.int a :: .int c :: xs)) ≤ 8 := by
          have := D.nkAll_depth (.int a :: .int c :: xs)
          have e : D.deepAll (.int a :: .int c :: xs) ≤ 8 := by simp [D.deepAll, D.deep, hdp]
          omega
        have l1 := NestedAll.length _ _ n1
        have l2 := NestedAll.length _ _ n2
        have R := Ob.RcOp.tuples_gt (A := X.A) (s := s) (e := fun _ => true) (r := fun _ => false) p1 p2 (by omega) (fun j h1 h2 => by
          have := eqAt_keys _ _ X.A.in1 s its its2 n1 n2 (by show X.A.units + 1 + _ < cLine; omega) j (by simpa using h1) (by simpa using h2)
          rw [nk_same _ j (by rw [← l1]; simpa using h1)] at this
          simpa using this) (fun j h1 h2 z => by cases z)
        refine R X.prog X.w X.xe (EP X pins σ Q) ?_
        have ez : Ob.lexAt (fun _ => true) (fun _ => false) (decide (its.toArray.size > its2.toArray.size)) 0 (min its.toArray.size its2.toArray.size) = decide (a < a ∨ (a = a ∧ c < c)) := by
          have el : ∀ (m i : Nat) (b : Bool), Ob.lexAt (fun _ => true) (fun _ => false) b i m = b := by
            intro m
            induction m with
            | zero => intro i b; rfl
            | succ m ih => intro i b; simp only [Ob.lexAt]; exact ih _ _
          rw [el]
          simp
          omega
        rw [ez]
        exact fin
      · cases al1 with
        | cons q1 al1 =>
          cases al1 with
          | cons q2 al1 =>
            cases al2 with
            | cons q3 al2 =>
              cases al2 with
              | cons q4 al2 =>
                cases q1; cases q2; cases q3; cases q4
                cases w1 with
                | cons a1 w1 =>
                  cases w1 with
                  | cons a2 w1 =>
                    cases w2 with
                    | cons b1 w2 =>
                      cases w2 with
                      | cons b2 w2 =>
                        obtain ⟨k1, rfl⟩ := a1
                        obtain ⟨k2, rfl⟩ := a2
                        obtain ⟨k3, rfl⟩ := b1
                        obtain ⟨k4, rfl⟩ := b2
                        exact rc_gt_two p1 p2 (by omega) rfl rfl e X.prog X.w X.xe (EP X pins σ Q) fin
end
end NF
namespace NF
open PySem L2 PySem.W PyProof.Rows

theorem look_put {β : Type} {kvs : List (List Key × β)} {k k' : List Key} {v : β} : lookA (putA kvs k v) k' = if k = k' then some v else lookA kvs k' := by
  unfold putA lookA
  by_cases c : (kvs.any fun kv => decide (kv.1 = k)) = true
  · rw [if_pos c]
    induction kvs with
    | nil => simp at c
    | cons p l ih =>
      rw [List.map_cons, List.find?_cons, List.find?_cons]
      by_cases e : p.1 = k
      · rw [if_pos e]
        by_cases e2 : k = k'
        · simp [e, e2]
        · have e3 : ¬ p.1 = k' := fun z => e2 (e.symm.trans z)
          simp only [e3, decide_false, if_neg e2]
          have : ∀ l : List (List Key × β), (l.map fun kv => if kv.1 = k then (kv.1, v) else kv).find? (fun kv => decide (kv.1 = k')) = l.find? (fun kv => decide (kv.1 = k')) := by
            intro l
            induction l with
            | nil => rfl
            | cons q l ih2 =>
              rw [List.map_cons, List.find?_cons, List.find?_cons]
              by_cases e4 : q.1 = k
              · have e5 : ¬ q.1 = k' := fun z => e2 (e4.symm.trans z)
                rw [if_pos e4]
                simp only [e5, decide_false]
                exact ih2
              · rw [if_neg e4]
                by_cases e5 : q.1 = k'
                · simp [e5]
                · simp only [e5, decide_false]
                  exact ih2
          rw [this]
      · rw [if_neg e]
        have c' : (l.any fun kv => decide (kv.1 = k)) = true := by
          rw [List.any_cons, decide_eq_false e, Bool.false_or] at c
          exact c
        by_cases e3 : p.1 = k'
        · have e2 : ¬ k = k' := fun z => e (e3.trans z.symm)
          simp [e3, e2]
        · simp only [e3, decide_false]
          exact ih c'
  · rw [if_neg c, List.find?_append]
    by_cases e2 : k = k'
    · subst e2
      have : kvs.find? (fun kv => decide (kv.1 = k)) = none := by
        rw [List.find?_eq_none]
        intro q hq z
        exact c (List.any_eq_true.mpr ⟨q, hq, z⟩)
      rw [this]
      simp
    · rw [if_neg e2]
      cases h : kvs.find? (fun kv => decide (kv.1 = k')) with
      | some q => rfl
      | none => simp [e2]
theorem put_len {β : Type} (kvs : List (List Key × β)) (k : List Key) (v : β) : (putA kvs k v).length ≤ kvs.length + 1 := by
  unfold putA
  split <;> simp
def dropAt (a : Ky) (x : Dd) : Bool := match x with
  | .drop _ b => decide (b = a)
  | _ => false
def worthAt (a : Ky) (x : Dd) : Bool := match x with
  | .worth _ b _ => decide (b = a)
  | _ => false
/-- the first drop of a row, the last worth -/
def dropOf (l : List Dd) (a : Ky) : Option Dd := l.find? (dropAt a)
def lastW (l : List Dd) (a : Ky) : Option Dd := (l.filter (worthAt a)).getLast?
noncomputable def keepB (row : List Dd) (x : Dd) : Bool := match x with
  | .new _ _ _ => true
  | .drop k a => decide (dropOf row a = some (.drop k a))
  | .name _ a _ => (dropOf row a).isNone
  | .worth k a w => (dropOf row a).isNone && decide (lastW row a = some (.worth k a w))
noncomputable def sqz (ds : List Dd) : List Dd := (ordd ds).filter (keepB (ordd ds))
def Keep (S : Dd → Prop) (x : Dd) : Prop := match x with
  | .new _ _ _ => True
  | .drop k a => ∀ y, S y → dropAt a y = true → kle k y.key = true
  | .name _ a _ => ∀ y, S y → dropAt a y = false
  | .worth k a _ => (∀ y, S y → dropAt a y = false) ∧ ∀ y, S y → worthAt a y = true → kle y.key k = true
theorem dropOf_none {l : List Dd} {a : Ky} : (dropOf l a).isNone = true ↔ ∀ y, y ∈ l → dropAt a y = false := by
  unfold dropOf
  rw [Option.isNone_iff_eq_none, List.find?_eq_none]
  simp
theorem dropOf_first {ds : List Dd} (g : Good ds) {x : Dd} {a : Ky} (hx : x ∈ ordd ds) (hd : dropAt a x = true) : dropOf (ordd ds) a = some x ↔ ∀ y, y ∈ ordd ds → dropAt a y = true → kle x.key y.key = true := by
  have s := ordd_sorted ds
  have nd := ordd_nodup ds
  have one := g.ordd.one
  unfold dropOf
  generalize ordd ds = l at *
  induction l with
  | nil => cases hx
  | cons z l ih =>
    rw [List.find?_cons]
    have s' := List.pairwise_cons.mp s
    have nd' := List.nodup_cons.mp nd
    cases hz : dropAt a z with
    | true =>
      constructor
      · intro e
        cases e
        intro y hy _
        rcases List.mem_cons.mp hy with e | e
        · rw [e, kle_iff]; omega
        · exact s'.1 y e
      · intro h
        have h1 := h z (by simp) hz
        rcases List.mem_cons.mp hx with e | e
        · rw [e]
        · have h2 := s'.1 x e
          have := one z x (by simp) hx (kle_anti h2 h1)
          rw [this]
    | false =>
      have hx' : x ∈ l := by
        rcases List.mem_cons.mp hx with e | e
        · rw [e, hz] at hd; cases hd
        · exact e
      have ih' := ih hx' s'.2 nd'.2 fun u v hu hv => one u v (List.mem_cons_of_mem _ hu) (List.mem_cons_of_mem _ hv)
      refine Iff.trans ih' ?_
      constructor
      · intro h y hy hyd
        rcases List.mem_cons.mp hy with e | e
        · rw [e, hz] at hyd; cases hyd
        · exact h y e hyd
      · exact fun h y hy => h y (by simp [hy])
theorem lastW_last {ds : List Dd} (g : Good ds) {x : Dd} {a : Ky} (hx : x ∈ ordd ds) (hw : worthAt a x = true) : lastW (ordd ds) a = some x ↔ ∀ y, y ∈ ordd ds → worthAt a y = true → kle y.key x.key = true := by
  have s := (ordd_sorted ds).filter (worthAt a)
  have one := g.ordd.one
  have mx : x ∈ (ordd ds).filter (worthAt a) := List.mem_filter.mpr ⟨hx, hw⟩
  have sub : ∀ y, y ∈ (ordd ds).filter (worthAt a) ↔ y ∈ ordd ds ∧ worthAt a y = true := fun y => List.mem_filter
  unfold lastW
  generalize (ordd ds).filter (worthAt a) = l at s mx sub
  rcases List.eq_nil_or_concat l with e | ⟨p, z, e⟩
  · rw [e] at mx; cases mx
  · rw [List.concat_eq_append] at e
    subst e
    rw [List.getLast?_append]
    simp only [List.getLast?_singleton, Option.some_or, Option.some.injEq]
    have sp := List.pairwise_append.mp s
    have mz := (sub z).mp (by simp)
    constructor
    · intro ez
      subst ez
      intro y hy hyw
      rcases List.mem_append.mp ((sub y).mpr ⟨hy, hyw⟩) with h | h
      · exact sp.2.2 y h z (by simp)
      · rw [List.mem_singleton.mp h, kle_iff]; omega
    · intro h
      have h1 := h z mz.1 mz.2
      rcases List.mem_append.mp mx with h2 | h2
      · exact one z x mz.1 hx (kle_anti h1 (sp.2.2 x h2 z (by simp)))
      · exact (List.mem_singleton.mp h2).symm
theorem keep_iff {ds : List Dd} (g : Good ds) {x : Dd} (hx : x ∈ ordd ds) : keepB (ordd ds) x = true ↔ Keep (· ∈ ds) x := by
  have m : ∀ {p : Dd → Prop}, (∀ y, y ∈ ordd ds → p y) ↔ ∀ y, y ∈ ds → p y := fun {p} => ⟨fun h y hy => h y (mem_ordd.mpr hy), fun h y hy => h y (mem_ordd.mp hy)⟩
  cases x with
  | new k n w => simp [keepB, Keep]
  | name k a n =>
    simp only [keepB, Keep]
    rw [dropOf_none, m]
  | drop k a =>
    simp only [keepB, Keep, decide_eq_true_eq]
    rw [dropOf_first g hx (by simp [dropAt]), m]
    rfl
  | worth k a w =>
    simp only [keepB, Keep, Bool.and_eq_true, decide_eq_true_eq]
    rw [dropOf_none, lastW_last g hx (by simp [worthAt]), m, m]
    rfl
theorem mem_sqz {ds : List Dd} (g : Good ds) {x : Dd} : x ∈ sqz ds ↔ x ∈ ds ∧ Keep (· ∈ ds) x := by
  unfold sqz
  rw [List.mem_filter, mem_ordd]
  constructor
  · rintro ⟨h1, h2⟩
    exact ⟨h1, (keep_iff g (mem_ordd.mpr h1)).mp h2⟩
  · rintro ⟨h1, h2⟩
    exact ⟨h1, (keep_iff g (mem_ordd.mpr h1)).mpr h2⟩
theorem sqz_sorted (ds : List Dd) : (sqz ds).Pairwise fun a b => kle a.key b.key = true := (ordd_sorted ds).filter _
theorem sqz_nodup (ds : List Dd) : (sqz ds).Nodup := (ordd_nodup ds).filter _
theorem sqz_eq {ds es : List Dd} (g : Good ds) (h : ∀ x, x ∈ sqz ds ↔ x ∈ sqz es) : sqz ds = sqz es :=
  List.Perm.eq_of_pairwise (le := fun a b : Dd => kle a.key b.key = true) (fun a b ha hb h1 h2 => g.one a b ((mem_sqz g).mp ha).1 ((mem_sqz g).mp ((h b).mpr hb)).1 (kle_anti h1 h2)) (sqz_sorted ds) (sqz_sorted es) (perm_of_mem (sqz_nodup ds) (sqz_nodup es) h)
theorem Keep.mono {S T : Dd → Prop} (h : ∀ x, T x → S x) {x : Dd} (kp : Keep S x) : Keep T x := by
  cases x with
  | new k n w => exact trivial
  | name k a n => exact fun y hy => kp y (h y hy)
  | drop k a => exact fun y hy => kp y (h y hy)
  | worth k a w => exact ⟨fun y hy => kp.1 y (h y hy), fun y hy => kp.2 y (h y hy)⟩
/-- where there is a drop, the first is kept -/
theorem first_drop {ds : List Dd} (g : Good ds) {y : Dd} {a : Ky} (hy : y ∈ ds) (hd : dropAt a y = true) : ∃ z, z ∈ sqz ds ∧ dropAt a z = true ∧ kle z.key y.key = true := by
  have ne : dropOf (ordd ds) a ≠ none := fun e => by
    have := dropOf_none.mp (by rw [e]; rfl) y (mem_ordd.mpr hy)
    rw [hd] at this
    cases this
  cases e : dropOf (ordd ds) a with
  | none => exact absurd e ne
  | some z =>
    have hz : dropAt a z = true := List.find?_some e
    have mz : z ∈ ordd ds := List.mem_of_find?_eq_some e
    have le := (dropOf_first g mz hz).mp e
    refine ⟨z, (mem_sqz g).mpr ⟨mem_ordd.mp mz, ?_⟩, hz, le y (mem_ordd.mpr hy) hd⟩
    cases z with
    | drop k b =>
      have eb : b = a := by simpa [dropAt] using hz
      subst eb
      exact fun u hu => le u (mem_ordd.mpr hu)
    | _ => simp [dropAt] at hz
theorem last_worth {ds : List Dd} (g : Good ds) {y : Dd} {a : Ky} (hy : y ∈ ds) (hw : worthAt a y = true) (nd : ∀ u, u ∈ ds → dropAt a u = false) : ∃ z, z ∈ sqz ds ∧ worthAt a z = true ∧ kle y.key z.key = true := by
  cases e : lastW (ordd ds) a with
  | none =>
    unfold lastW at e
    rw [List.getLast?_eq_none_iff, List.filter_eq_nil_iff] at e
    exact absurd hw (e y (mem_ordd.mpr hy))
  | some z =>
    have mm : z ∈ (ordd ds).filter (worthAt a) := List.mem_of_getLast? e
    obtain ⟨mz, hz⟩ := List.mem_filter.mp mm
    have le := (lastW_last g mz hz).mp e
    refine ⟨z, (mem_sqz g).mpr ⟨mem_ordd.mp mz, ?_⟩, hz, le y (mem_ordd.mpr hy) hw⟩
    cases z with
    | worth k b w =>
      have eb : b = a := by simpa [worthAt] using hz
      subst eb
      exact ⟨nd, fun u hu => le u (mem_ordd.mpr hu)⟩
    | _ => simp [worthAt] at hz
/-- squeezed, then more is told: the same is left as if all were told -/
theorem keep_more {ds more : List Dd} (g : Good ds) (gu : Good (ds ++ more)) (x : Dd) : (x ∈ ds ++ more ∧ Keep (· ∈ ds ++ more) x) ↔ (x ∈ sqz ds ++ more ∧ Keep (· ∈ sqz ds ++ more) x) := by
  have sub : ∀ y, y ∈ sqz ds ++ more → y ∈ ds ++ more := fun y hy => by
    rcases List.mem_append.mp hy with h | h
    · exact List.mem_append_left _ ((mem_sqz g).mp h).1
    · exact List.mem_append_right _ h
  constructor
  · rintro ⟨h1, h2⟩
    refine ⟨?_, h2.mono sub⟩
    rcases List.mem_append.mp h1 with h | h
    · exact List.mem_append_left _ ((mem_sqz g).mpr ⟨h, h2.mono fun y hy => List.mem_append_left _ hy⟩)
    · exact List.mem_append_right _ h
  · rintro ⟨h1, h2⟩
    refine ⟨sub x h1, ?_⟩
    have drops : ∀ {a : Ky} {y : Dd}, y ∈ ds ++ more → dropAt a y = true → ∃ z, z ∈ sqz ds ++ more ∧ dropAt a z = true ∧ kle z.key y.key = true := fun {a y} hy hd => by
      rcases List.mem_append.mp hy with h | h
      · obtain ⟨z, z1, z2, z3⟩ := first_drop g h hd
        exact ⟨z, List.mem_append_left _ z1, z2, z3⟩
      · exact ⟨y, List.mem_append_right _ h, hd, by rw [kle_iff]; omega⟩
    have none : ∀ {a : Ky}, (∀ y, y ∈ sqz ds ++ more → dropAt a y = false) → ∀ y, y ∈ ds ++ more → dropAt a y = false := fun {a} h y hy => by
      cases e : dropAt a y with
      | false => rfl
      | true =>
        obtain ⟨z, z1, z2, _⟩ := drops hy e
        rw [h z z1] at z2
        cases z2
    cases x with
    | new k n w => exact trivial
    | name k a n => exact none h2
    | drop k a =>
      intro y hy hd
      obtain ⟨z, z1, z2, z3⟩ := drops hy hd
      exact kle_trans _ _ _ (h2 z z1 z2) z3
    | worth k a w =>
      refine ⟨none h2.1, fun y hy hw => ?_⟩
      rcases List.mem_append.mp hy with h | h
      · obtain ⟨z, z1, z2, z3⟩ := last_worth g h hw fun u hu => none h2.1 u (List.mem_append_left _ hu)
        exact kle_trans _ _ _ z3 (h2.2 z (List.mem_append_left _ z1) z2)
      · exact h2.2 y (List.mem_append_right _ h) hw
theorem eq_sorted {U l m : List Dd} (g : Good U) (hl : ∀ x, x ∈ l → x ∈ U) (s1 : l.Pairwise fun a b => kle a.key b.key = true) (s2 : m.Pairwise fun a b => kle a.key b.key = true) (n1 : l.Nodup) (n2 : m.Nodup) (h : ∀ x, x ∈ l ↔ x ∈ m) : l = m :=
  List.Perm.eq_of_pairwise (le := fun a b : Dd => kle a.key b.key = true) (fun a b ha hb h1 h2 => g.one a b (hl a ha) (hl b ((h b).mpr hb)) (kle_anti h1 h2)) s1 s2 (perm_of_mem n1 n2 h)
theorem same_filter {U V : List Dd} (g : Good U) (p : Dd → Bool) (h : ∀ x, p x = true → (x ∈ U ↔ x ∈ V)) : (ordd U).filter p = (ordd V).filter p := by
  refine eq_sorted g (fun x hx => mem_ordd.mp (List.mem_filter.mp hx).1) ((ordd_sorted U).filter _) ((ordd_sorted V).filter _) ((ordd_nodup U).filter _) ((ordd_nodup V).filter _) fun x => ?_
  rw [List.mem_filter, List.mem_filter, mem_ordd, mem_ordd]
  exact ⟨fun ⟨a, b⟩ => ⟨(h x b).mp a, b⟩, fun ⟨a, b⟩ => ⟨(h x b).mpr a, b⟩⟩
theorem filterMap_filter {α β : Type} (f : α → Option β) (p : α → Bool) (h : ∀ x y, f x = some y → p x = true) : ∀ l : List α, l.filterMap f = (l.filter p).filterMap f
  | [] => rfl
  | x :: l => by
    rw [List.filter_cons]
    cases e : f x with
    | none =>
      rw [List.filterMap_cons_none e, filterMap_filter f p h l]
      split
      · rw [List.filterMap_cons_none e]
      · rfl
    | some y =>
      rw [if_pos (h x y e), List.filterMap_cons_some e, List.filterMap_cons_some e, filterMap_filter f p h l]
theorem getLast_filterMap {α β : Type} (f : α → Option β) : ∀ l : List α, (∀ x, x ∈ l → (f x).isSome = true) → (l.filterMap f).getLast? = l.getLast?.bind f
  | [], _ => rfl
  | [x], h => by
    obtain ⟨y, e⟩ := Option.isSome_iff_exists.mp (h x (by simp))
    simp [e]
  | x :: z :: l, h => by
    obtain ⟨y, e⟩ := Option.isSome_iff_exists.mp (h x (by simp))
    obtain ⟨u, e2⟩ := Option.isSome_iff_exists.mp (h z (by simp))
    have ih := getLast_filterMap f (z :: l) fun w hw => h w (List.mem_cons_of_mem _ hw)
    rw [List.filterMap_cons_some e, getLast_cons_getD x z l, ← ih, List.filterMap_cons_some e2, getLast_cons_getD]
def isName : Dd → Bool
  | .name _ _ _ => true
  | _ => false
theorem nmOf_name (x : Dd) (y : Ky × Str) (h : nmOf x = some y) : isName x = true := by
  cases x <;> simp [nmOf] at h
  rfl
theorem wt_at {k : Ky} {x : Dd} : (decide (x.at_ = some k) && (wtOf x).isSome) = worthAt k x := by
  cases x <;> simp [Dd.at_, wtOf, worthAt]
theorem about_worth (W : List Dd) (k : Ky) : (aboutL (ordd W) k).filterMap wtOf = ((ordd W).filter (worthAt k)).filterMap wtOf := by
  unfold aboutL
  rw [filterMap_filter wtOf (fun x => (wtOf x).isSome) (fun x y e => by rw [e]; rfl) (List.filter _ _), List.filter_filter]
  congr 1
  refine List.filter_congr fun x _ => ?_
  rw [Bool.and_comm]
  exact wt_at
theorem row_same {U V : List Dd} (g : Good U) (gv : Good V) (sub : ∀ x, x ∈ V → x ∈ U) (r : Rc) (dr : (∃ y, y ∈ U ∧ dropAt r.key y = true) ↔ ∃ y, y ∈ V ∧ dropAt r.key y = true) (r0 : r.gone = false)
    (nm : (∀ y, y ∈ U → dropAt r.key y = false) → ∀ y, y ∈ U → isName y = true → y.at_ = some r.key → y ∈ V) (wt : (∀ y, y ∈ U → dropAt r.key y = false) → lastW (ordd U) r.key = lastW (ordd V) r.key) :
    (rowsAt (ordd U) r).gone = (rowsAt (ordd V) r).gone ∧ ((rowsAt (ordd U) r).gone = false → rowsAt (ordd U) r = rowsAt (ordd V) r) := by
  have matU : ∀ y, y ∈ aboutL (ordd U) r.key → y.at_ = some r.key := fun y hy => by simpa using (List.mem_filter.mp hy).2
  have matV : ∀ y, y ∈ aboutL (ordd V) r.key → y.at_ = some r.key := fun y hy => by simpa using (List.mem_filter.mp hy).2
  obtain ⟨u1, u2, u3⟩ := fold_parts matU
  obtain ⟨v1, v2, v3⟩ := fold_parts matV
  rw [rowsAt_mine] at u1 u2 u3 v1 v2 v3
  have anyD : ∀ W : List Dd, ((aboutL (ordd W) r.key).any isDrop = true ↔ ∃ y, y ∈ W ∧ dropAt r.key y = true) := fun W => by
    rw [List.any_eq_true]
    constructor
    · rintro ⟨y, hy, e⟩
      obtain ⟨m, a⟩ := List.mem_filter.mp hy
      refine ⟨y, mem_ordd.mp m, ?_⟩
      cases y <;> simp [isDrop] at e
      simpa [dropAt, Dd.at_] using a
    · rintro ⟨y, hy, e⟩
      refine ⟨y, List.mem_filter.mpr ⟨mem_ordd.mpr hy, ?_⟩, ?_⟩
      · cases y <;> simp [dropAt] at e
        simpa [Dd.at_] using e
      · cases y <;> simp [dropAt] at e
        rfl
  have eg : (rowsAt (ordd U) r).gone = (rowsAt (ordd V) r).gone := by
    rw [u1, v1]
    congr 1
    exact Bool.eq_iff_iff.mpr ((anyD U).trans (dr.trans (anyD V).symm))
  refine ⟨eg, fun hg => ?_⟩
  have no : ∀ y, y ∈ U → dropAt r.key y = false := fun y hy => by
    cases e : dropAt r.key y with
    | false => rfl
    | true =>
      have := (anyD U).mpr ⟨y, hy, e⟩
      rw [u1, r0, this] at hg
      cases hg
  have en : (aboutL (ordd U) r.key).filterMap nmOf = (aboutL (ordd V) r.key).filterMap nmOf := by
    rw [filterMap_filter nmOf isName nmOf_name (aboutL (ordd U) r.key), filterMap_filter nmOf isName nmOf_name (aboutL (ordd V) r.key)]
    unfold aboutL
    rw [List.filter_filter, List.filter_filter, same_filter (V := V) g _ fun x hx => ?_]
    simp only [Bool.and_eq_true, decide_eq_true_eq] at hx
    exact ⟨fun m => nm no x m hx.1 hx.2, sub x⟩
  have ew : ((aboutL (ordd U) r.key).filterMap wtOf).getLast? = ((aboutL (ordd V) r.key).filterMap wtOf).getLast? := by
    rw [about_worth, about_worth]
    have all : ∀ W : List Dd, ∀ x, x ∈ (ordd W).filter (worthAt r.key) → (wtOf x).isSome = true := fun W x hx => by
      have := (List.mem_filter.mp hx).2
      rw [← wt_at, Bool.and_eq_true] at this
      exact this.2
    rw [getLast_filterMap wtOf _ (all U), getLast_filterMap wtOf _ (all V)]
    have := wt no
    unfold lastW at this
    rw [this]
  have ew2 : (rowsAt (ordd U) r).worth = (rowsAt (ordd V) r).worth := by
    have c : ∀ l : List Int, (r.worth :: l).getLast? = some ((l.getLast?).getD r.worth) := fun l => by
      cases l with
      | nil => rfl
      | cons a l => rw [getLast_cons_getD]; cases h : (a :: l).getLast? with
        | none => simp at h
        | some z => rfl
    rw [c] at u2 v2
    rw [ew] at u2
    exact Option.some.inj (u2.symm.trans v2)
  have e3 := u3.trans ((by rw [en] : _ = _).trans v3.symm)
  have k1 := rowsAt_key (ordd U) r
  have k2 := rowsAt_key (ordd V) r
  generalize rowsAt (ordd U) r = a at *
  generalize rowsAt (ordd V) r = b at *
  obtain ⟨a1, a2, a3, a4, a5⟩ := a
  obtain ⟨b1, b2, b3, b4, b5⟩ := b
  simp only [Prod.mk.injEq] at *
  obtain ⟨e4, e5⟩ := e3
  subst k1 e4 e5 ew2 eg
  rw [k2]
theorem there_same {U V : List Dd} (g : Good U) (new : ∀ x, isNew x = true → (x ∈ U ↔ x ∈ V)) (row : ∀ x r, x ∈ U → made x = some r → (rowsAt (ordd U) r).gone = (rowsAt (ordd V) r).gone ∧ ((rowsAt (ordd U) r).gone = false → rowsAt (ordd U) r = rowsAt (ordd V) r)) : there U = there V := by
  have mn : ∀ (x : Dd) (r : Rc), made x = some r → isNew x = true := fun x r e => by
    cases x <;> simp [made] at e
    rfl
  have news : (ordd U).filterMap made = (ordd V).filterMap made := by
    rw [filterMap_filter made isNew mn (ordd U), filterMap_filter made isNew mn (ordd V), same_filter g isNew new]
  unfold there rows
  rw [← news]
  congr 1
  have inU : ∀ r, r ∈ (ordd U).filterMap made → ∃ x, x ∈ U ∧ made x = some r := fun r hr => by
    obtain ⟨x, hx, e⟩ := List.mem_filterMap.mp hr
    exact ⟨x, mem_ordd.mp hx, e⟩
  generalize (ordd U).filterMap made = l at inU
  induction l with
  | nil => rfl
  | cons r l ih =>
    obtain ⟨x, hx, e⟩ := inU r (by simp)
    obtain ⟨h1, h2⟩ := row x r hx e
    rw [List.map_cons, List.map_cons, List.filter_cons, List.filter_cons, ih fun s hs => inU s (by simp [hs]), h1]
    cases hg : (rowsAt (ordd V) r).gone with
    | true => rfl
    | false => rw [h2 (h1.trans hg)]
theorem good_sqz {ds more : List Dd} (g : Good ds) (gu : Good (ds ++ more)) : Good (sqz ds ++ more) := by
  refine gu.sub (fun y hy => ?_) ?_
  · rcases List.mem_append.mp hy with h | h
    · exact List.mem_append_left _ ((mem_sqz g).mp h).1
    · exact List.mem_append_right _ h
  · have h1 : (sqz ds).length ≤ (ordd ds).length := List.length_filter_le ..
    have h2 : (ordd ds).length ≤ ds.length := by rw [(ordd_perm ds).length_eq]; exact Good.nodup_len
    simp only [List.length_append]
    omega
theorem sqz_more {ds more : List Dd} (g : Good ds) (gu : Good (ds ++ more)) : sqz (sqz ds ++ more) = sqz (ds ++ more) :=
  sqz_eq (good_sqz g gu) fun x => by rw [mem_sqz (good_sqz g gu), mem_sqz gu]; exact (keep_more g gu x).symm
theorem sqz_sqz {ds : List Dd} (g : Good ds) : sqz (sqz ds) = sqz ds := by
  have g0 : Good (ds ++ []) := by rw [List.append_nil]; exact g
  have := sqz_more g g0
  simpa using this
theorem sqz_rev {ds : List Dd} (g : Good ds) : sqz ds.reverse = sqz ds := by
  unfold sqz
  rw [ordd_rev g]
theorem there_more {ds more : List Dd} (g : Good ds) (gu : Good (ds ++ more)) : there (sqz ds ++ more) = there (ds ++ more) := by
  have gv := good_sqz g gu
  have sub : ∀ y, y ∈ sqz ds ++ more → y ∈ ds ++ more := fun y hy => by
    rcases List.mem_append.mp hy with h | h
    · exact List.mem_append_left _ ((mem_sqz g).mp h).1
    · exact List.mem_append_right _ h
  have keep : ∀ y, y ∈ ds ++ more → Keep (· ∈ ds) y → y ∈ sqz ds ++ more := fun y hy k => by
    rcases List.mem_append.mp hy with h | h
    · exact List.mem_append_left _ ((mem_sqz g).mpr ⟨h, k⟩)
    · exact List.mem_append_right _ h
  refine (there_same gu (fun x hx => ⟨fun m => keep x m ?_, sub x⟩) fun x r hx e => row_same gu gv sub r ?_ ?_ ?_ ?_).symm
  · cases x <;> simp [isNew] at hx
    exact trivial
  · constructor
    · rintro ⟨y, hy, hd⟩
      rcases List.mem_append.mp hy with h | h
      · obtain ⟨z, z1, z2, _⟩ := first_drop g h hd
        exact ⟨z, List.mem_append_left _ z1, z2⟩
      · exact ⟨y, List.mem_append_right _ h, hd⟩
    · rintro ⟨y, hy, hd⟩
      exact ⟨y, sub y hy, hd⟩
  · cases x <;> simp [made] at e
    subst e
    rfl
  · intro no y hy hn ha
    refine keep y hy ?_
    cases y <;> simp [isName] at hn
    simp only [Dd.at_, Option.some.injEq] at ha
    subst ha
    exact fun u hu => no u (List.mem_append_left _ hu)
  · intro no
    cases eu : lastW (ordd (ds ++ more)) r.key with
    | none =>
      unfold lastW at eu
      rw [List.getLast?_eq_none_iff, List.filter_eq_nil_iff] at eu
      unfold lastW
      symm
      rw [List.getLast?_eq_none_iff, List.filter_eq_nil_iff]
      exact fun y hy => eu y (mem_ordd.mpr (sub y (mem_ordd.mp hy)))
    | some z =>
      have mm : z ∈ (ordd (ds ++ more)).filter (worthAt r.key) := List.mem_of_getLast? eu
      obtain ⟨mz, hz⟩ := List.mem_filter.mp mm
      have le := (lastW_last gu mz hz).mp eu
      have kz : Keep (· ∈ ds) z := by
        cases z with
        | worth k b w =>
          have eb : b = r.key := by simpa [worthAt] using hz
          subst eb
          exact ⟨fun u hu => no u (List.mem_append_left _ hu), fun u hu => le u (mem_ordd.mpr (List.mem_append_left _ hu))⟩
        | _ => simp [worthAt] at hz
      have vz := keep z (mem_ordd.mp mz) kz
      exact ((lastW_last gv (mem_ordd.mpr vz) hz).mpr fun y hy => le y (mem_ordd.mpr (sub y (mem_ordd.mp hy)))).symm
theorem table_more {ds more : List Dd} (g : Good ds) (gu : Good (ds ++ more)) : tableD (sqz ds ++ more) = tableD (ds ++ more) := by
  unfold tableD
  rw [there_more g gu]
/-- which rows fell -/
noncomputable def fellK (ds : List Dd) : List Ky := ((shown (there ds)).filter fun p => !decide (p.1 = p.2.name)).map (·.2.key)
noncomputable def fellD (ds : List Dd) : D := .lst (((fellK ds).map Ky.d).mergeSort dle)
theorem fell_more {ds more : List Dd} (g : Good ds) (gu : Good (ds ++ more)) : fellD (sqz ds ++ more) = fellD (ds ++ more) := by
  unfold fellD fellK
  rw [there_more g gu]
theorem dropOf_snoc (l : List Dd) (x : Dd) (a : Ky) : dropOf (l ++ [x]) a = (dropOf l a).or (if dropAt a x = true then some x else none) := by
  unfold dropOf
  rw [List.find?_append]
  congr 1
  rw [List.find?_cons]
  cases dropAt a x <;> rfl
theorem lastW_snoc (l : List Dd) (x : Dd) (a : Ky) : lastW (l ++ [x]) a = if worthAt a x = true then some x else lastW l a := by
  unfold lastW
  rw [List.filter_append, List.filter_cons]
  cases worthAt a x with
  | true => simp
  | false => simp
theorem eqb_dd {x y : Dd} : D.eqb x.d y.d = decide (x = y) := by
  unfold D.eqb
  congr 1
  exact propext ⟨dd_inj, fun e => by rw [e]⟩
theorem now_dd {M : Mp} {x : Dd} {d : D} : Now M x.d d ↔ d = x.d := now_tup
theorem Fin.lstAt {Φ : KD} {M M1 : Mp} {p : Addr} {ds : List D} (m : (p, MO.lst ds) ∈ M1) (n : p ∉ dom M) (s : Sub M M1) (h : Φ (.lst ds) M) : Fin Φ (.op (.ref p)) M1 :=
  ⟨.lst ds, M, s, .lst m n (fun i d e h1 h2 => by rw [h1] at h2; cases h2; exact .same d) rfl, h⟩
theorem filter_more {α : Type} {l : List α} {i : Nat} {x : α} (h : l[i]? = some x) (p : α → Bool) : (l.take (i + 1)).filter p = (l.take i).filter p ++ (if p x = true then [x] else []) := by
  rw [take_more h, List.filter_append, List.filter_cons]
  split <;> rfl
theorem Deeds.app {l m : List Dd} (h1 : Deeds l) (h2 : Deeds m) (h : ∀ x, x ∈ m → ∀ y, y ∈ l → x.key ≠ y.key) : Deeds (l ++ m) := by
  refine ⟨fun x hx => ?_, ?_⟩
  · rcases List.mem_append.mp hx with z | z
    · exact h1.ok x z
    · exact h2.ok x z
  · rw [List.map_append, List.nodup_append]
    refine ⟨h1.nd, h2.nd, fun a ha b hb e => ?_⟩
    obtain ⟨y, hy, rfl⟩ := List.mem_map.mp ha
    obtain ⟨x, hx, rfl⟩ := List.mem_map.mp hb
    exact h x hx y hy e.symm
theorem any_key {xs : List Dd} {k : Ky} : ((xs.map fun x => Ky.d x.key).any fun z => D.eqb z (Ky.d k)) = true ↔ ∃ y, y ∈ xs ∧ y.key = k := by
  rw [List.any_map, List.any_eq_true]
  constructor
  · rintro ⟨y, hy, e⟩
    refine ⟨y, hy, ?_⟩
    have e' : D.eqb (Ky.d y.key) (Ky.d k) = true := e
    rw [eqb_key] at e'
    simpa using e'
  · rintro ⟨y, hy, e⟩
    refine ⟨y, hy, ?_⟩
    show D.eqb (Ky.d y.key) (Ky.d k) = true
    rw [eqb_key, e]
    simp
def lastD' (l : List Dd) (a : Ky) : Option Dd := (l.filter (dropAt a)).getLast?
theorem lastD_snoc (l : List Dd) (x : Dd) (a : Ky) : lastD' (l ++ [x]) a = if dropAt a x = true then some x else lastD' l a := by
  unfold lastD'
  rw [List.filter_append, List.filter_cons]
  cases dropAt a x with
  | true => simp
  | false => simp
theorem lastD_rev (l : List Dd) (a : Ky) : lastD' l.reverse a = dropOf l a := by
  unfold lastD' dropOf
  rw [List.filter_reverse, List.getLast?_reverse]
  induction l with
  | nil => rfl
  | cons x l ih =>
    rw [List.filter_cons, List.find?_cons]
    cases dropAt a x with
    | true => rfl
    | false => exact ih
theorem keep_worth {xs : List Dd} (g : Good xs) {k a : Ky} {w : Int} (hx : Dd.worth k a w ∈ ordd xs) (no : dropOf (ordd xs) a = none) : keepB (ordd xs) (.worth k a w) = (xs.filter fun y => worthAt a y && decide (k.1 < y.key.1 ∨ (k.1 = y.key.1 ∧ k.2 < y.key.2))).isEmpty := by
  have h1 : (keepB (ordd xs) (.worth k a w) = true) ↔ ∀ y, y ∈ ordd xs → worthAt a y = true → kle y.key k = true := by
    simp only [keepB, no, Option.isNone_none, Bool.true_and, decide_eq_true_eq]
    exact lastW_last g hx (by simp [worthAt])
  have h2 : ((xs.filter fun y => worthAt a y && decide (k.1 < y.key.1 ∨ (k.1 = y.key.1 ∧ k.2 < y.key.2))).isEmpty = true) ↔ ∀ y, y ∈ xs → worthAt a y = true → kle y.key k = true := by
    rw [List.isEmpty_iff, List.filter_eq_nil_iff]
    constructor
    · intro h y hy hw
      have := h y hy
      rw [hw, Bool.true_and, decide_eq_true_eq] at this
      rw [kle_iff]
      omega
    · intro h y hy z
      rw [Bool.and_eq_true, decide_eq_true_eq] at z
      have := h y hy z.1
      rw [kle_iff] at this
      omega
  refine Bool.eq_iff_iff.mpr (h1.trans (Iff.trans ?_ h2.symm))
  exact ⟨fun h y hy => h y (mem_ordd.mpr hy), fun h y hy => h y (mem_ordd.mp hy)⟩
theorem mem_putDd {l : List Dd} {x z : Dd} (h : z ∈ putDd l x) : z ∈ l ∨ z = x := by
  unfold putDd at h
  split at h
  · obtain ⟨y, hy, e⟩ := List.mem_map.mp h
    split at e
    · exact .inr e.symm
    · exact .inl (e ▸ hy)
  · rcases List.mem_append.mp h with z | z
    · exact .inl z
    · exact .inr (List.mem_singleton.mp z)
theorem eqk_keys' (xs : List Dd) : D.eqOk (.lst (xs.map fun x => Ky.d x.key)) := by
  have := eqk_keys (xs.map Dd.key)
  rw [List.map_map] at this
  exact this
theorem gt_dd {x y : Dd} {M : Mp} {Φ : KD} (one : x.key = y.key → x = y) (h : Φ (.bl (decide (y.key.1 < x.key.1 ∨ (y.key.1 = x.key.1 ∧ y.key.2 < x.key.2)))) M) : aGtD x.d y.d M Φ := by
  have hs := setkey_dd x
  refine ⟨x.key.1, x.key.2, y.key.1, y.key.2, _, _, rfl, rfl, ?_, ?_, fun e => ?_, h⟩
  · have := hs.2.1
    simpa [Dd.d, D.hashy, D.hashyAll] using this
  · have := hs.2.2
    simp only [Dd.d, D.deep, D.deepAll] at this
    simp only [D.deepAll, D.deep]
    omega
  · rw [one (Prod.ext e.1 e.2)]
theorem empty_map {l : List Dd} : (l.map Dd.d).isEmpty = l.isEmpty := by cases l <;> rfl
end NF
namespace NF
open PySem L2 PySem.W PyProof.Rows

def eqd (u v : Value) : Bool := match v, u with
  | .str a _, .str b _ => a == b
  | .bool a, .bool b => a == b
  | _, _ => false
def aCount : D → List D → Mp → KD → Prop := fun x ds M Φ => (∃ (ss : List Str) (y : Str), Now M x (.lst (ss.map D.str)) ∧ ds = [.str y] ∧ Φ (.int (ss.count y : Nat)) M) ∨ ∃ (bs : List Bool) (b : Bool), Now M x (.lst (bs.map D.bl)) ∧ ds = [.bl b] ∧ Φ (.int (bs.count b : Nat)) M
theorem strs_count {y : Str} {t : Tok} : ∀ {ss : List Str} {us : List Value}, Vals (ss.map V.str) us → us.countP (eqd (.str y t)) = ss.count y ∧ ∀ u ∈ us, ∃ z k, u = Value.str z k
  | [], _, h => by cases h; exact ⟨rfl, fun u hu => (by cases hu)⟩
  | s :: ss, _, h => by
    cases h with
    | cons h1 h2 =>
      obtain ⟨k, rfl⟩ := h1
      obtain ⟨e1, e2⟩ := strs_count (y := y) (t := t) h2
      refine ⟨?_, fun u hu => ?_⟩
      · rw [List.countP_cons, List.count_cons, e1]
        rfl
      · rcases List.mem_cons.mp hu with e | hu
        · exact ⟨s, k, e⟩
        · exact e2 u hu
theorem bls_count {y : Bool} : ∀ {ss : List Bool} {us : List Value}, Vals (ss.map V.bl) us → us.countP (eqd (.bool y)) = ss.count y ∧ ∀ u ∈ us, ∃ z, u = Value.bool z
  | [], _, h => by cases h; exact ⟨rfl, fun u hu => (by cases hu)⟩
  | s :: ss, _, h => by
    cases h with
    | cons h1 h2 =>
      obtain rfl := h1
      obtain ⟨e1, e2⟩ := bls_count (y := y) h2
      refine ⟨?_, fun u hu => ?_⟩
      · rw [List.countP_cons, List.count_cons, e1]
        rfl
      · rcases List.mem_cons.mp hu with e | hu
        · exact ⟨s, e⟩
        · exact e2 u hu
section
variable {X : Cx}
theorem m_count : MtR X "list.count" (mOf X.K aCount) := by
  intro pins s σ H x xs v us Q I rx rxs ⟨d, ds, M, P, Φ, r1, r2, sa, h, q⟩
  rcases h with ⟨ss, y, nw, e, h⟩ | ⟨ss, y, nw, e, h⟩
  · subst e
    obtain ⟨b, vs, rfl, hb, hw⟩ := nw.sqL sa r1
    obtain rfl := RepAll.strs hw
    obtain ⟨w, rfl, rw1⟩ := r2.one'
    cases rw1
    cases rx
    obtain ⟨u, rfl, ru⟩ := rxs.one
    obtain ⟨t, rfl⟩ := ru
    obtain ⟨its, rv, ⟨⟨cls, dd, data, sl⟩, n, ho, hc, hdn, hd⟩, hlen⟩ := I.list (SqL.of (K := X.K) hb)
    simp only at hc hd
    subst hc hd
    obtain ⟨e1, e2⟩ := strs_count (y := y) (t := t) rv
    refine call_meets PySem.F.slot_list_count ⟨_, ho, rfl⟩ PySem.F.entry_list_count (PySem.F.args_list_count_2 _ _)
      (SeqAt.list_countAt b its.toArray n dd sl (.str y t) (eqd (.str y t))) ⟨ho, fun z hz => ?_, ?_⟩
    · obtain ⟨z', k, rfl⟩ := e2 z (by simpa using hz)
      exact SeqAt.EqAt.str_str _ _ _ _
    · refine ⟨.int (ss.count y : Nat), H, I.tok _, ⟨s.toks, ?_⟩, q.here sa h (.int _)⟩
      show Value.int ((its.toArray.toList.countP (eqd (.str y t)) : Nat) : Int) s.toks = _
      rw [show its.toArray.toList = its from by simp, e1]
  · subst e
    obtain ⟨b, vs, rfl, hb, hw⟩ := nw.sqL sa r1
    obtain rfl := RepAll.bls hw
    obtain ⟨w, rfl, rw1⟩ := r2.one'
    cases rw1
    cases rx
    obtain ⟨u, rfl, ru⟩ := rxs.one
    obtain rfl := ru
    obtain ⟨its, rv, ⟨⟨cls, dd, data, sl⟩, n, ho, hc, hdn, hd⟩, hlen⟩ := I.list (SqL.of (K := X.K) hb)
    simp only at hc hd
    subst hc hd
    obtain ⟨e1, e2⟩ := bls_count (y := y) rv
    refine call_meets PySem.F.slot_list_count ⟨_, ho, rfl⟩ PySem.F.entry_list_count (PySem.F.args_list_count_2 _ _)
      (SeqAt.list_countAt b its.toArray n dd sl (.bool y) (eqd (.bool y))) ⟨ho, fun z hz => ?_, ?_⟩
    · obtain ⟨z', rfl⟩ := e2 z (by simpa using hz)
      exact SeqAt.EqAt.bool_bool _ _
    · refine ⟨.int (ss.count y : Nat), H, I.tok _, ⟨s.toks, ?_⟩, q.here sa h (.int _)⟩
      show Value.int ((its.toArray.toList.countP (eqd (.bool y)) : Nat) : Int) s.toks = _
      rw [show its.toArray.toList = its from by simp, e1]
end

def sle (a b : Str) : Bool := dle (.str a) (.str b)
theorem sle_ple (a b : Str) : sle a b = ple (.str a) (.str b) := by
  unfold sle dle
  rw [dataLe_eq]
  simp [D.py]
structure IsSrt (ss l : List Str) : Prop where
  nd : l.Nodup
  mem : ∀ x, x ∈ l ↔ x ∈ ss
  srt : l.Pairwise fun a b => sle a b = true
theorem IsSrt.eq {ss l m : List Str} (h1 : IsSrt ss l) (h2 : IsSrt ss m) : l = m := by
  refine List.Perm.eq_of_pairwise (le := fun a b => sle a b = true) (fun a b _ _ x y => ?_) h1.srt h2.srt (perm_of_mem h1.nd h2.nd fun x => (h1.mem x).trans (h2.mem x).symm)
  rw [sle_ple] at x y
  exact name_anti x y
theorem strs_of {l : List D} {ss : List Str} (h : ∀ d, d ∈ l → d ∈ ss.map D.str) : ∃ l0 : List Str, l = l0.map D.str := by
  induction l with
  | nil => exact ⟨[], rfl⟩
  | cons d l ih =>
    obtain ⟨l0, rfl⟩ := ih fun x hx => h x (List.mem_cons_of_mem _ hx)
    obtain ⟨y, _, rfl⟩ := List.mem_map.mp (h d (List.mem_cons_self ..))
    exact ⟨y :: l0, rfl⟩
theorem str_mem {ss : List Str} {x : Str} : D.str x ∈ ss.map D.str ↔ x ∈ ss := by
  constructor
  · intro h
    obtain ⟨y, hy, e⟩ := List.mem_map.mp h
    cases e
    exact hy
  · exact fun h => List.mem_map.mpr ⟨x, h, rfl⟩
theorem srt_of {L : List D} {ss : List Str} (nd : L.Nodup) (h : ∀ d, d ∈ L ↔ d ∈ ss.map D.str) : ∃ l, IsSrt ss l ∧ L.mergeSort dle = l.map D.str := by
  obtain ⟨l0, rfl⟩ := strs_of fun d hd => (h d).mp hd
  refine ⟨l0.mergeSort sle, ⟨?_, fun x => ?_, ?_⟩, ?_⟩
  · refine (List.mergeSort_perm _ _).nodup_iff.mpr ?_
    exact (List.pairwise_map.mp nd).imp fun ne e => ne (by rw [e])
  · rw [(List.mergeSort_perm _ _).mem_iff, ← str_mem (ss := l0), h, str_mem]
  · exact List.pairwise_mergeSort (le := sle) (fun a b c h1 h2 => by rw [sle_ple] at *; exact ple_trans _ _ _ h1 h2) (fun a b => by rw [sle_ple, sle_ple]; exact ple_total _ _) _
  · exact (List.map_mergeSort fun a _ b _ => (show sle a b = dle (D.str a) (D.str b) from rfl)).symm
theorem srt_ex (ss : List Str) : ∃ l, IsSrt ss l := by
  have ex : ∀ ss : List Str, ∃ l : List Str, l.Nodup ∧ ∀ x, x ∈ l ↔ x ∈ ss := by
    intro ss
    induction ss with
    | nil => exact ⟨[], List.nodup_nil, fun x => Iff.rfl⟩
    | cons s ss ih =>
      obtain ⟨l, h1, h2⟩ := ih
      by_cases c : s ∈ l
      · exact ⟨l, h1, fun x => ⟨fun h => List.mem_cons_of_mem _ ((h2 x).mp h), fun h => by
          rcases List.mem_cons.mp h with e | h
          · rw [e]; exact c
          · exact (h2 x).mpr h⟩⟩
      · exact ⟨s :: l, List.nodup_cons.mpr ⟨c, h1⟩, fun x => by rw [List.mem_cons, List.mem_cons, h2 x]⟩
  obtain ⟨l, h1, h2⟩ := ex ss
  obtain ⟨m, h, _⟩ := srt_of (L := l.map D.str) (ss := ss) (List.pairwise_map.mpr (h1.imp fun ne e => ne (by cases e; rfl))) fun d => by
    constructor
    · intro hd
      obtain ⟨x, hx, rfl⟩ := List.mem_map.mp hd
      exact str_mem.mpr ((h2 x).mp hx)
    · intro hd
      obtain ⟨x, hx, rfl⟩ := List.mem_map.mp hd
      exact str_mem.mpr ((h2 x).mpr hx)
  exact ⟨m, h⟩
theorem sorts_strs (ss : List Str) : SortsTo ((ss.map D.str).map D.py) := by
  refine .inr ⟨fun d hd d' hd' => ?_, .inr fun d hd => ?_⟩
  · obtain ⟨e, he, rfl⟩ := List.mem_map.mp hd
    obtain ⟨x, _, rfl⟩ := List.mem_map.mp he
    obtain ⟨e', he', rfl⟩ := List.mem_map.mp hd'
    obtain ⟨x', _, rfl⟩ := List.mem_map.mp he'
    simp [D.py, alike]
  · obtain ⟨e, he, rfl⟩ := List.mem_map.mp hd
    obtain ⟨x, _, rfl⟩ := List.mem_map.mp he
    simp [D.py]
theorem wantD_ok {ss : List Str} (h : ∀ x, x ∈ ss → PyData.strOk x = true) : (∀ d, d ∈ ss.map D.str → D.plain d = true ∧ D.deep d ≤ 60) := fun d hd => by
  obtain ⟨x, hx, rfl⟩ := List.mem_map.mp hd
  exact ⟨by simpa [D.plain] using h x hx, by simp [D.deep]⟩
theorem setAll_strs (ss : List Str) : SetAll (ss.map D.str) := .inr fun d hd => by
  obtain ⟨x, hx, rfl⟩ := List.mem_map.mp hd
  exact ⟨x, rfl⟩
/-- the names wanted by several, with how many, of names in order -/
def manyOf (ss l : List Str) : List (Str × Nat) := (l.filter fun x => decide (1 < ss.count x)).map fun x => (x, ss.count x)
def manyD (p : Str × Nat) : D := .tup [.str p.1, .int p.2]
theorem eqk_many {ss l : List Str} (h : ∀ x, x ∈ l → PyData.strOk x = true) : D.eqOk (.lst ((manyOf ss l).map manyD)) := eqk_list fun d hd => by
  obtain ⟨p, hp, rfl⟩ := List.mem_map.mp hd
  obtain ⟨x, hx, rfl⟩ := List.mem_map.mp hp
  have := h x (List.mem_filter.mp hx).1
  simp [manyD, D.plain, D.plainAll, D.deep, D.deepAll, this]

def suf (c : Nat) : List Nat := if c = 0 then [] else (Str.ofString (toString ((c : Int) + 1))).cps.toList
def sval (l : List Nat) : Nat := l.foldl (fun a d => a * 10 + (d - 48)) 0
theorem suf_val : ∀ c, c < 64 → sval (suf c) = (if c = 0 then 0 else c + 1) ∧ ∀ d ∈ suf c, d < 97 := by decide +kernel
theorem shownAs_cps (n : Str) (c : Nat) : (shownAs n c).cps.toList = n.cps.toList ++ suf c := by
  unfold shownAs suf
  split
  · simp
  · show (n.cps ++ _).toList = _
    rw [Array.toList_append]
theorem shownAs_inj {n m : Str} {c d : Nat} (hn : NameOk n) (hm : NameOk m) (hc : c < 64) (hd : d < 64) (h : shownAs n c = shownAs m d) : n = m ∧ c = d := by
  have e : n.cps.toList ++ suf c = m.cps.toList ++ suf d := by rw [← shownAs_cps, ← shownAs_cps, h]
  have up : ∀ (z : Str) (k : Nat), NameOk z → k < 64 → (z.cps.toList ++ suf k).filter (fun x => decide (97 ≤ x)) = z.cps.toList ∧ (z.cps.toList ++ suf k).filter (fun x => !decide (97 ≤ x)) = suf k := fun z k hz hk => by
    have s1 : (suf k).filter (fun x => decide (97 ≤ x)) = [] := List.filter_eq_nil_iff.mpr fun x hx => by
      have := (suf_val k hk).2 x hx
      simp; omega
    have s2 : (suf k).filter (fun x => !decide (97 ≤ x)) = suf k := List.filter_eq_self.mpr fun x hx => by
      have := (suf_val k hk).2 x hx
      simp; omega
    have z1 : z.cps.toList.filter (fun x => decide (97 ≤ x)) = z.cps.toList := List.filter_eq_self.mpr fun x hx => by
      have := (hz.2.2 x hx).1
      simp; omega
    have z2 : z.cps.toList.filter (fun x => !decide (97 ≤ x)) = [] := List.filter_eq_nil_iff.mpr fun x hx => by
      have := (hz.2.2 x hx).1
      simp; omega
    rw [List.filter_append, List.filter_append, s1, s2, z1, z2]
    simp
  obtain ⟨a1, a2⟩ := up n c hn hc
  obtain ⟨b1, b2⟩ := up m d hm hd
  rw [e] at a1 a2
  refine ⟨str_of_cps (a1.symm.trans b1), ?_⟩
  have s : suf c = suf d := a2.symm.trans b2
  have v1 := (suf_val c hc).1
  have v2 := (suf_val d hd).1
  rw [s, v2] at v1
  split at v1 <;> split at v1 <;> omega
theorem shownFrom_nodup : ∀ {l p : List Rc}, (∀ r, r ∈ l → NameOk r.name) → p.length + l.length < 64 → ((shownFrom p l).map (·.1)).Nodup ∧ ∀ s, s ∈ (shownFrom p l).map (·.1) → ∃ r c, NameOk r ∧ c < 64 ∧ cntN p r ≤ c ∧ s = shownAs r c
  | [], p, _, _ => ⟨List.nodup_nil, fun s h => (by cases h)⟩
  | r :: l, p, ok, few => by
    simp only [List.length_cons] at few
    obtain ⟨h1, h2⟩ := shownFrom_nodup (l := l) (p := p ++ [r]) (fun x hx => ok x (List.mem_cons_of_mem _ hx)) (by simp; omega)
    have okr := ok r (List.mem_cons_self ..)
    have lt : cntN p r.name < 64 := cnt_lt (by omega)
    have cn : ∀ n, cntN (p ++ [r]) n = cntN p n + (if r.name = n then 1 else 0) := fun n => by
      unfold cntN
      rw [List.filter_append, List.length_append]
      congr 1
      by_cases e : r.name = n
      · simp [e]
      · simp [e]
    simp only [shownFrom, List.map_cons]
    refine ⟨List.nodup_cons.mpr ⟨fun z => ?_, h1⟩, fun s hs => ?_⟩
    · obtain ⟨n, c, a1, a2, a3, a4⟩ := h2 _ z
      obtain ⟨e1, e2⟩ := shownAs_inj (c := cntN p r.name) okr a1 lt a2 a4
      subst e1
      rw [cn, if_pos rfl] at a3
      omega
    · rcases List.mem_cons.mp hs with e | hs
      · exact ⟨r.name, cntN p r.name, okr, lt, Nat.le_refl _, e⟩
      · obtain ⟨n, c, a1, a2, a3, a4⟩ := h2 s hs
        refine ⟨n, c, a1, a2, ?_, a4⟩
        rw [cn] at a3
        omega
theorem shown_nodup {ds : List Dd} (g : Good ds) : ((shown (there ds)).map (·.1)).Nodup := (shownFrom_nodup (p := []) (fun r hr => (there_ok g hr).2.1) (by have := there_len g; simpa using this)).1
theorem rows_same {ds es : List Dd} (h : ordd ds = ordd es) : rows ds = rows es := by unfold rows; rw [h]
theorem there_eq {ds es : List Dd} (h : ordd ds = ordd es) : there ds = there es := by unfold there; rw [rows_same h]
theorem table_eq {ds es : List Dd} (h : ordd ds = ordd es) : tableD ds = tableD es := by unfold tableD; rw [there_eq h]
theorem fell_eq {ds es : List Dd} (h : ordd ds = ordd es) : fellD ds = fellD es := by unfold fellD fellK; rw [there_eq h]
noncomputable def waitB (l : List Dd) (x : Dd) : Bool := match x.at_ with
  | none => false
  | some a => !(l.any fun y => isNew y && decide (y.key = a))
noncomputable def waitL (ds : List Dd) : List Dd := (ordd ds).filter (waitB (ordd ds))
theorem wait_eq {ds es : List Dd} (h : ordd ds = ordd es) : waitL ds = waitL es := by unfold waitL; rw [h]
theorem waitB_same {l m : List Dd} (h : ∀ x, x ∈ l ↔ x ∈ m) (x : Dd) : waitB l x = waitB m x := by
  unfold waitB
  split
  · rfl
  · congr 1
    rw [Bool.eq_iff_iff, List.any_eq_true, List.any_eq_true]
    constructor
    · rintro ⟨y, hy, e⟩; exact ⟨y, (h y).mp hy, e⟩
    · rintro ⟨y, hy, e⟩; exact ⟨y, (h y).mpr hy, e⟩
theorem ordd_filter {ds : List Dd} (g : Good ds) (p : Dd → Bool) : ordd (ds.filter p) = (ordd ds).filter p := by
  refine eq_sorted g (fun x hx => (List.mem_filter.mp (mem_ordd.mp hx)).1) (ordd_sorted _) ((ordd_sorted ds).filter _) (ordd_nodup _) ((ordd_nodup ds).filter _) fun x => ?_
  rw [mem_ordd, List.mem_filter, List.mem_filter, mem_ordd]
theorem rows_has {ds : List Dd} {a : Ky} : (∃ r, r ∈ rows ds ∧ r.key = a) ↔ ((ordd ds).any fun y => isNew y && decide (y.key = a)) = true := by
  rw [List.any_eq_true]
  constructor
  · rintro ⟨r, hr, e⟩
    obtain ⟨s, hs, rfl⟩ := List.mem_map.mp hr
    obtain ⟨x, hx, e1⟩ := List.mem_filterMap.mp hs
    obtain ⟨k1, k2, k3⟩ := made_key e1
    rw [rowsAt_key, k1] at e
    refine ⟨x, hx, ?_⟩
    cases x <;> simp [made] at e1
    simp [isNew, e]
  · rintro ⟨x, hx, e⟩
    cases x with
    | new k n w =>
      simp only [isNew, Bool.true_and, decide_eq_true_eq] at e
      refine ⟨rowsAt (ordd ds) ⟨k, n, k, w, false⟩, List.mem_map.mpr ⟨_, List.mem_filterMap.mpr ⟨_, hx, rfl⟩, rfl⟩, ?_⟩
      rw [rowsAt_key]
      exact e
    | _ => simp [isNew] at e
theorem look_zip {C : Addr} {l : List Rc} {a : Ky} : (lookA ((l.map fun r => kk r.key).zip (l.map (rcd C))) (kk a)).isSome = true ↔ ∃ r, r ∈ l ∧ r.key = a := by
  induction l with
  | nil => simp [lookA]
  | cons r l ih =>
    simp only [List.map_cons, List.zip_cons_cons]
    unfold lookA at *
    by_cases e : r.key = a
    · simp [List.find?_cons, e]
    · rw [List.find?_cons]
      have : decide (kk r.key = kk a) = false := by simp [kk_inj, e]
      simp only [this]
      rw [ih]
      simp [e]
theorem look_wait {ds : List Dd} {C : Addr} {a : Ky} : (lookA (((rows ds).map fun r => kk r.key).zip ((rows ds).map (rcd C))) (kk a)).isSome = ((ordd ds).any fun y => isNew y && decide (y.key = a)) := by
  rw [Bool.eq_iff_iff, look_zip, rows_has]
end NF
namespace NF
open PySem L2

abbrev XD := Addr → Mp → Prop
abbrev ASpX := List D → Mp → KD → XD → Prop
def PostX (K : PySem.W.Frag) (P : Hp) (M : Mp) (H : Hp) (Ξ : XD) (E : Addr → Hp → Prop) : Prop := ∀ C M', Ξ C M' → ∀ P' H', Grow K P M H P' M' H' → E C H'
theorem PostX.mk {K : PySem.W.Frag} {P H P1 H1 : Hp} {M M1 : Mp} {Ξ : XD} {E : Addr → Hp → Prop} (q : PostX K P M H Ξ E) (g : Grow K P M H P1 M1 H1) : PostX K P1 M1 H1 Ξ E := fun C M' h P' H' g' => q C M' h P' H' (g.trans g')
def spOfX (K : PySem.W.Frag) (f : ASpX) : Sp := fun vs H Q E => ∃ ds M P Φ Ξ, RepAll K P vs ds ∧ Sat K P M H ∧ f ds M Φ Ξ ∧ Post K P M H Φ Q ∧ PostX K P M H Ξ (fun C H' => E (.ref C) none H')
abbrev OkX (P : Program) (w : World) (K : PySem.W.Frag) (mg : Str → Option Value) (base : Heap) (f : Addr) (fd : FuncData) (ps : List Str) (k : Nat) (sp : ASpX) : Prop := FnOk P w K mg base (L2.CX P w) k f fd ps (spOfX K sp)
/-- where it raises nothing -/
theorem OkX.calm {P : Program} {w : World} {K : PySem.W.Frag} {mg : Str → Option Value} {base : Heap} {f : Addr} {fd : FuncData} {ps : List Str} {k : Nat} {sp : ASpX} {sp' : ASp} (F : OkX P w K mg base f fd ps k sp) (h : ∀ ds M Φ, sp' ds M Φ → sp ds M Φ (fun _ _ => False)) :
    OkD P w K mg base f fd ps k sp' := by
  have go : ∀ vs H Q E, spOf K sp' vs H Q E → spOfX K sp vs H Q E0 := fun vs H Q E ⟨ds, M, P', Φ, r, s, q, post⟩ => ⟨ds, M, P', Φ, _, r, s, h ds M Φ q, post, fun C M' z => z.elim⟩
  refine ⟨fun vs H Q E q => F.len vs H Q E0 (go vs H Q E q), fun A outer s H args us vs Q E hr he hb hv hs => ?_⟩
  refine codeAny_mono (F.run A outer s H args us vs Q E0 hr he hb hv (go vs H Q E hs)) fun r s' hq => ?_
  cases r with
  | error e =>
    obtain ⟨_, _, _, _, _, _, _, _, _, _, _, _, z⟩ := hq
    exact z.elim
  | ok fl =>
    cases fl with
    | ret u => exact hq
    | next => exact hq
    | brk => exact hq
    | cont => exact hq

abbrev WEX := Ctx → Mp → KD → XD → Prop
def txOf (K : PySem.W.Frag) (W : WX) (w : WEX) : TE := fun σ H Q => ∃ Γ M P Φ Ξ, Slots K P σ Γ ∧ Sat K P M H ∧ w Γ M Φ Ξ ∧ Post K P M H Φ Q ∧ PostX K P M H Ξ (fun C H' => W (.ref C) none σ H')
abbrev PDX (X : Cx) (W : WX) (e : Expr) (w : WEX) : Prop := PE X e (txOf X.K W w)
def xOf (w : WE) : WEX := fun Γ M Φ _ => w Γ M Φ
section
variable {X : Cx} {W : WX} {a b c e : Expr} {es : List Expr} {we : WE} {xa xb : WEX} {tc : WT} {wa : WA} {pos p : Pos}
theorem x_of (h : PD X e we) : PDX X W e (xOf we) := PE.weak h fun σ H Q ⟨Γ, M, P, Φ, Ξ, s, sa, h, q, _⟩ => ⟨Γ, M, P, Φ, s, sa, h, q⟩
def xIf (t : WT) (a b : WEX) : WEX := fun Γ M Φ Ξ => t Γ M fun c M1 => (c = true → a Γ M1 Φ Ξ) ∧ (c = false → b Γ M1 Φ Ξ)
theorem x_if (hc : PDT X c tc) (ha : PDX X W a xa) (hb : PDX X W b xb) : PDX X W (.IfExp c a b pos) (xIf tc xa xb) := PE.weak (pe_ifExp hc ha hb) fun σ H Q ⟨Γ, M, P, Φ, Ξ, s, sa, h, q, qx⟩ =>
  ⟨Γ, M, P, _, s, sa, h, fun c M1 ⟨h1, h2⟩ P1 H1 g1 => by
    cases c with
    | true => rw [if_pos rfl]; exact ⟨Γ, M1, P1, _, Ξ, s.up g1.le, g1.sat, h1 rfl, q.mk g1, qx.mk g1⟩
    | false => rw [if_neg Bool.false_ne_true]; exact ⟨Γ, M1, P1, _, Ξ, s.up g1.le, g1.sat, h2 rfl, q.mk g1, qx.mk g1⟩⟩
def xCall (f : ASpX) (w : WA) : WEX := fun Γ M Φ Ξ => w Γ M fun ds M1 => f ds M1 Φ Ξ
theorem x_call {k : Nat} {f : Addr} {fd : FuncData} {ps : List Str} {sp : ASpX} {x qual : Str} {st : Stmt} {K : PySem.W.Frag} {mg : Str → Option Value} (tk : Takes X W) (Dd : Dn K mg x qual st ps f fd) (F : FnOk X.prog X.w X.K X.mg X.base (L2.CX X.prog X.w) k f fd ps (spOfX X.K sp)) (hr : Room k X.A) (ha : PDA X (e :: es) wa)
    (hK : X.K = K := by rfl) (hM : X.mg = mg := by rfl) (hg : Gl X x := by rfl) (hdb : (x == ("__debug__" : Str)) = false := by decide) (he : starEach (e :: es) X.env = (false, eval e X.env) :: starEach es X.env := by rfl) (hpl : (backTo pos (starEach es X.env)).any (·.1) = false := by rfl) :
    PDX X W (.Call (.Name x p) (e :: es) [] pos) (xCall sp wa) := by
  subst hK hM
  exact PE.weak (pe_callS F hr hg Dd.m Dd.F.kp Dd.b (fun σ => passAt tk σ) ha hdb he hpl) fun σ H Q ⟨Γ, M, P, Φ, Ξ, s, sa, h, q, qx⟩ =>
    ⟨Γ, M, P, _, s, sa, h, fun ds M1 h1 vs P1 H1 g r => ⟨ds, M1, P1, Φ, Ξ, r, g.sat, h1, q.mk g, qx.mk g⟩⟩
def xFld (C : Addr) (f : Str) (w : WEX) : WEX := fun Γ M Φ Ξ => w Γ M (fun d M1 => ∃ fs x, InsOf C M1 d fs ∧ fs.lookup f = some x ∧ Φ x M1) Ξ
theorem x_fld {C : Addr} {f : Str} (c : Cls X.K C) (n : NoAttr X.K C f) (he : PDX X W e xa) (hb : attributeBase e f X.env (eval e X.env) = eval e X.env := by rfl) : PDX X W (.Attribute e f pos) (xFld C f xa) := PE.weak (pe_fld he hb) fun σ H Q ⟨Γ, M, P, Φ, Ξ, s, sa, h, q, qx⟩ =>
  ⟨Γ, M, P, _, Ξ, s, sa, h, fun d M1 ⟨fs, x, i, l, h1⟩ v P1 H1 g r => by
    obtain ⟨b, dx, vs, rfl, hb, hf⟩ := i.at_ g.sat r
    obtain ⟨u, hu, ru⟩ := hf.look l
    exact ⟨b, C, dx, vs, u, rfl, hb, c, n, hu, (q.mk g).here g.sat h1 ru⟩, qx⟩
end

structure AEX extends AE where
  xc : Ctx → Addr → Mp → Prop
abbrev WSX := AEX → Ctx → Mp → Prop
def XOk (K : PySem.W.Frag) (P : Hp) (M : Mp) (H : Hp) (xc : Ctx → Addr → Mp → Prop) (W : WX) : Prop := ∀ Γ' C M', xc Γ' C M' → ∀ σ' P' H', Grow K P M H P' M' H' → Slots K P' σ' Γ' → W (.ref C) none σ' H'
theorem XOk.mk {K : PySem.W.Frag} {P H P1 H1 : Hp} {M M1 : Mp} {xc : Ctx → Addr → Mp → Prop} {W : WX} (q : XOk K P M H xc W) (g : Grow K P M H P1 M1 H1) : XOk K P1 M1 H1 xc W := fun Γ' C M' h σ' P' H' g' s => q Γ' C M' h σ' P' H' (g.trans g') s
theorem XOk.post {K : PySem.W.Frag} {P H : Hp} {M : Mp} {xc : Ctx → Addr → Mp → Prop} {W : WX} {σ : St} {Γ : Ctx} (q : XOk K P M H xc W) (s : Slots K P σ Γ) : PostX K P M H (xc Γ) (fun C H' => W (.ref C) none σ H') := fun C M' h P' H' g => q Γ C M' h σ P' H' g (s.up g.le)
def sxOf (K : PySem.W.Frag) (W : WX) (w : WSX) : TS := fun E σ H => ∃ Γ M P R, Slots K P σ Γ ∧ Sat K P M H ∧ w R Γ M ∧ EndsOk K P M H R.toAE E ∧ XOk K P M H R.xc W
abbrev PXS (X : Cx) (W : WX) (st : Stmt) (w : WSX) : Prop := PS X st (sxOf X.K W w)
abbrev PXB (X : Cx) (W : WX) (st : List Stmt) (w : WSX) : Prop := PSs X st (sxOf X.K W w)
def sOfX (w : WS) : WSX := fun R Γ M => w R.toAE Γ M
def xSeq (a b : WSX) : WSX := fun R Γ M => a { R with nx := b R } Γ M
def xDrop (w : WEX) : WSX := fun R Γ M => w Γ M (fun _ M1 => R.nx Γ M1) (R.xc Γ)
def xRet (w : WEX) : WSX := fun R Γ M => w Γ M R.rt (R.xc Γ)
def xSet (i : Nat) (w : WEX) : WSX := fun R Γ M => w Γ M (fun d M1 => R.nx (Γ.set i (some d)) M1) (R.xc Γ)
def xIfS (c : WT) (a b : WSX) : WSX := fun R Γ M => c Γ M fun k M1 => (k = true → a R Γ M1) ∧ (k = false → b R Γ M1)
def xRaise (C : Addr) : WSX := fun R Γ M => R.xc Γ C M
section
variable {X : Cx} {W : WX} {st : Stmt} {rest : List Stmt} {e c : Expr} {ws : WS} {xs xr : WSX} {xe : WEX} {wc : WT} {pos pos' : Pos}
theorem s_of (h : PDS X st ws) : PXS X W st (sOfX ws) := PS.weak h fun E σ H ⟨Γ, M, P, R, s, sa, h, q, _⟩ => ⟨Γ, M, P, R.toAE, s, sa, h, q⟩
theorem b_of (h : PDB X rest ws) : PXB X W rest (sOfX ws) := PSs.weak h fun E σ H ⟨Γ, M, P, R, s, sa, h, q, _⟩ => ⟨Γ, M, P, R.toAE, s, sa, h, q⟩
theorem bx_one (h : PXS X W st xs) : PXB X W [st] xs := pss_one h
theorem bx_cons (h1 : PXS X W st xs) (h2 : PXB X W rest xr) : PXB X W (st :: rest) (xSeq xs xr) := PSs.weak (pss_cons h1 h2) fun E σ H ⟨Γ, M, P, R, s, sa, h, q, qx⟩ =>
  ⟨Γ, M, P, { R with nx := xr R }, s, sa, h, ⟨fun Γ' M' h' σ' P' H' g s' => ⟨Γ', M', P', R, s', g.sat, h', q.mk' g, qx.mk g⟩, q.rt, q.bk, q.ct⟩, qx⟩
theorem sx_expr (he : PDX X W e xe) (hs : swapsWith e none pos.line X.env = pure false := by rfl) : PXS X W (.Expr e pos) (xDrop xe) := PS.weak (ps_expr he hs) fun E σ H ⟨Γ, M, P, R, s, sa, h, q, qx⟩ =>
  ⟨Γ, M, P, _, _, s, sa, h, fun d M1 h1 v P1 H1 g r => q.nx _ _ h1 _ _ _ g (s.up g.le), qx.post s⟩
theorem sx_ret (he : PDX X W e xe) : PXS X W (.Return (some e) pos) (xRet xe) := PS.weak (ps_ret he) fun E σ H ⟨Γ, M, P, R, s, sa, h, q, qx⟩ =>
  ⟨Γ, M, P, _, _, s, sa, h, fun d M1 h1 v P1 H1 g r => q.rt _ _ h1 _ _ _ g r, qx.post s⟩
theorem sx_set (i : Nat) {x : Str} (hN : X.N.Nodup) (hx : Loc X.env.scope x) (he : PDX X W e xe) (hi : X.N[i]? = some x := by rfl) (hs : swapsWith e (some (.Name x pos')) pos.line X.env = pure false := by rfl)
    (hf : X.fn x = true ∨ X.env.scope.names.lookup x = some .local := by first | exact .inl rfl | exact .inr rfl | assumption) : PXS X W (.Assign [.Name x pos'] e pos) (xSet i xe) := PS.weak (ps_set hN hi hx he hs hf) fun E σ H ⟨Γ, M, P, R, s, sa, h, q, qx⟩ =>
  ⟨Γ, M, P, _, _, s, sa, h, fun d M1 h1 v P1 H1 g r => q.nx _ _ h1 _ _ _ g ((s.up g.le).set r i), qx.post s⟩
theorem sx_if {a b : List Stmt} {xa xb : WSX} (hc : PDT X c wc) (ha : PXB X W a xa) (hb : PXB X W b xb) : PXS X W (.If c a b pos) (xIfS wc xa xb) := PS.weak (ps_if hc ha hb) fun E σ H ⟨Γ, M, P, R, s, sa, h, q, qx⟩ =>
  ⟨Γ, M, P, _, s, sa, h, fun k M1 ⟨h1, h2⟩ P1 H1 g => by
    cases k with
    | true => rw [if_pos rfl]; exact ⟨Γ, M1, P1, R, s.up g.le, g.sat, h1 rfl, q.mk' g, qx.mk g⟩
    | false => rw [if_neg Bool.false_ne_true]; exact ⟨Γ, M1, P1, R, s.up g.le, g.sat, h2 rfl, q.mk' g, qx.mk g⟩⟩
end
/-- what must be known of an own class of exceptions -/
structure XCls (K : PySem.W.Frag) (mg : Str → Option Value) (x : Str) (C : Addr) : Prop where
  ex : PySem.W.excIn K C [.type "ValueError", .type "Exception", .type "BaseException", .type "object"] "ValueError.__new__" = true
  g : mg x = some (.ref C)
  k : PySem.W.keepIn K (.ref C) = true
  b : PySem.W.subIn K (.ref C) (.type "BaseException") = some true
  t : PySem.W.typeIn K (.ref C) = some (.type "type")
section
variable {X : Cx} {W : WX}
theorem sx_raise {x m : Str} {C : Addr} {j : Nat} {p p2 pos pos' : Pos} {K : PySem.W.Frag} {mg : Str → Option Value} (tk : Takes X W) (c : XCls K mg x C) (hc : X.calm = true := by rfl) (hK : X.K = K := by rfl) (hM : X.mg = mg := by rfl) (hg : Gl X x := by rfl) (hdb : (x == ("__debug__" : Str)) = false := by decide) :
    PXS X W (.Raise (some (.Call (.Name x p) [.Constant (.str m) j p2] [] pos')) none pos) (xRaise C) := by
  subst hK hM
  exact PS.weak (ps_raise hc tk (pmk_own PySem.F.excBase_ValueError c.ex c.g c.k (raises_own c.b c.t) hg hdb)) fun E σ H ⟨Γ, M, P, R, s, sa, h, q, qx⟩ => qx _ _ _ h _ _ _ (Grow.refl sa) s
end

def FinX (Ξ : XD) : XD := fun C M => ∃ M2, Sub M2 M ∧ Ξ C M2
theorem FinX.pure {Ξ : XD} {C : Addr} {M : Mp} (h : Ξ C M) : FinX Ξ C M := ⟨M, List.Sublist.refl M, h⟩
def endsX (Φ : KD) (Ξ : XD) : AEX := { ends Φ with xc := fun _ => FinX Ξ }
section
variable {P : Program} {w : World} {K : PySem.W.Frag} {mg : Str → Option Value} {base : Heap}
theorem def_okX {x qual : Str} {st : Stmt} {f : Addr} {fd : FuncData} {N ps : List Str} {k : Nat} {sp : ASpX} {b : WSX} (F : Fun K x qual st f fd) (S : FnScope N ps (defScope st)) (len : ∀ ds M Φ Ξ, sp ds M Φ Ξ → ds.length = ps.length)
    (body : ∀ (cdv : Value) (A : Around) (outer : List Env) (s : Shared) (H : Hp) (E : XK), Room k (A.deeper (PyProof.Rows.envOfC qual (defScope st) s.heap.objs.size f cdv)) → PXB (cxOf (L2.CX P w) P w K mg base N qual (defScope st) f cdv A outer s H E) (fun cls d _ H => E cls d H) (defBody st) b)
    (reads : ∀ ds M Φ Ξ, sp ds M Φ Ξ → b (endsX Φ Ξ) (startD N ds) M) : OkX P w K mg base f fd ps (k + 1) sp := by
  refine F.okX S (fun vs H Q E ⟨ds, M, P', Φ, Ξ, r, s, h, q⟩ => ?_) (fun cdv A outer s H vs Q E hr ⟨ds, M, P', Φ, Ξ, r, sa, h, q, qx⟩ => ?_)
  · rw [r.length]
    exact len ds M Φ Ξ h
  · refine ⟨_, body cdv A outer s H E hr, startD N ds, M, P', endsX Φ Ξ, slots_start r, sa, reads ds M Φ Ξ h, ⟨fun Γ' M' h' σ' P1 H1 g s' => ?_, fun d M' h' v P1 H1 g r' => ?_, fun _ _ h' => h'.elim, fun _ _ h' => h'.elim⟩, fun Γ' C M' ⟨M2, sub, h'⟩ σ' P1 H1 g s' => ?_⟩
    · exact Fin.go q h' g .non
    · exact Fin.go q h' g r'
    · exact qx C M2 h' _ _ (g.trans (grow_frz g.sat sub))
end
def D.isNon : D → Bool
  | .non => true
  | .op v => decide (v = .non)
  | _ => false
theorem isNon_rep {K : PySem.W.Frag} {P : Hp} {v : V} {d : D} (r : Rep K P v d) : decide (v = V.non) = D.isNon d := by cases r <;> simp [D.isNon]
def aIsN (neg : Bool) : AR2 := fun x y M Φ => y = .non ∧ Φ (.bl (if neg then !D.isNon x else D.isNon x)) M
section
variable {X : Cx}
theorem o_isN : OpR X (compareOp .Is) (rOf X.K (aIsN false)) := OpR.weak op_isN fun x y H Q ⟨dx, dy, M, P, Φ, r1, r2, s, ⟨e, h⟩, q⟩ => by
  subst e
  cases r2
  exact ⟨rfl, by rw [isNon_rep r1]; exact q.here s h (.bl _)⟩
theorem o_notN : OpR X (compareOp .IsNot) (rOf X.K (aIsN true)) := OpR.weak op_notN fun x y H Q ⟨dx, dy, M, P, Φ, r1, r2, s, ⟨e, h⟩, q⟩ => by
  subst e
  cases r2
  exact ⟨rfl, by rw [isNon_rep r1]; exact q.here s h (.bl _)⟩
end
end NF
namespace NF
open PySem L2 PySem.Spec PyProof.Rows

section
variable {X : Cx} {pins : List (Addr × Obj)} {σ : L2.St} {H : Hp} {s : Shared}
/-- a pinned exception is tracked from now on -/
theorem track {a : Addr} {oe : Obj} {vs : Array Value} (I : L2.Inv X ((a, oe) :: pins) σ H s) (hv : oe.data = .fields vs) (new : X.s_0.heap.get? a = none) (other : ∀ p, p ∈ X.pn ++ pins → p.1 ≠ a) : L2.Inv X pins σ (upd H a (.frz oe (.own a))) s := by
  obtain ⟨ha, na, nL, nF, nc⟩ := I.pin (a, oe) (List.mem_append_right _ (List.mem_cons_self ..))
  have ne : ∀ b o, H b = some o → b ≠ a := fun b o e z => by rw [z, na] at e; cases e
  refine ⟨I.ok, I.os, I.bare, ⟨I.base.keep, I.base.slot, fun b o e n hx => ?_, I.base.there, fun b xs e => ?_, fun b o u e => ?_, fun b ps e => ?_⟩, I.loc, I.cell, ?_, fun x c e => ?_, fun p hp => ?_, fun b u e => ?_, I.len⟩
  · have : b ≠ a := fun z => by rw [z, new] at e; cases e
    rw [upd_ne this]
    exact I.base.free b o e n hx
  · have q := I.base.tups b xs e
    rw [upd_ne (ne _ _ q)]; exact q
  · have q := I.base.frzs b o u e
    rw [upd_ne (ne _ _ q)]; exact q
  · obtain ⟨more, q⟩ := I.base.tbls b ps e
    exact ⟨more, by rw [upd_ne (ne _ _ q)]; exact q⟩
  · rw [upd_ne (Ne.symm nL)]; exact I.free
  · have : c ≠ a := fun z => by
      obtain ⟨v, o, ho, hd⟩ := I.cell x c e
      rw [z] at ho
      have ha' : s.heap.get? a = some oe := ha
      rw [ha'] at ho
      cases ho
      exact nc v hd
    rw [upd_ne this]
    exact I.freeC x c e
  · have hp' : p ∈ X.pn ++ (a, oe) :: pins := by
      rcases List.mem_append.mp hp with z | z
      · exact List.mem_append_left _ z
      · exact List.mem_append_right _ (List.mem_cons_of_mem _ z)
    obtain ⟨h1, h2, h3, h4, h5⟩ := I.pin p hp'
    exact ⟨h1, by rw [upd_ne (other p hp)]; exact h2, h3, h4, h5⟩
  · by_cases z : b = a
    · subst z
      rw [upd_same] at e
      cases e
      exact ⟨ha, ⟨_, ha⟩⟩
    · rw [upd_ne z] at e
      exact (I.hok b u e).stay (fun _ _ _ q => q) (fun c q => by rw [upd_ne (ne _ _ q)]; exact q) fun c xs q => by rw [upd_ne (ne _ _ q)]; exact q
end

/-- what 'except x as n: y = n' wishes of an exception of the body: slot i is n's, slot j is y's -/
def wKeep (K : PySem.W.Frag) (c : Value) (i j : Nat) (Wout : WX) (D : Ends) : WX := fun cls d σ H =>
  ∃ b, PySem.W.exmOne K cls c = some b ∧ (b = true → ∀ (a : Addr) (oe : Obj), H a = none → Zc cls d oe → (∃ vs, oe.data = .fields vs) → D.nx (((σ.set i (some (.ref a))).set j (some (.ref a))).set i none) (upd H a (.frz oe (.own a)))) ∧ (b = false → Wout cls d σ H)
section
variable {X : Cx} {x n y : Str} {c : Value} {i j : Nat} {body : List Stmt} {np pos pos' p1 p2 p3 : Pos} {tb : WX → TS} {Wout : WX}
theorem ps_try_keep (hs : X.stack = X.env :: X.outer) (hf : X.env.frame = some X.env.locals) (hex : X.ex = []) (hN : X.N.Nodup) (hi : X.N[i]? = some n) (hj : X.N[j]? = some y) (hln : X.env.kindOf n = some .local) (hly : Loc X.env.scope y) (hfy : X.fn y = true ∨ X.env.scope.names.lookup y = some .local) (hc : Names X x c) (tk : Takes X Wout)
    (hdn : (n == ("__debug__" : Str)) = false) (hcn : (n == ("__classdict__" : Str)) = false) (hsw : swapsWith (.Name n p2) (some (.Name y p1)) p3.line X.env = pure false)
    (hb : ∀ (W : WX) (pn : List (Addr × Obj)) (xe : Value → Shared → Prop), Takes (X.tr pn xe) W → PassesOwn (model X.prog X.w) X.A X.env xe → PSs (X.tr pn xe) body (tb W)) :
    PS X (.Try body [.ExceptHandler (some (.Name x np)) (some n) [.Assign [.Name y p1] (.Name n p2) p3] pos'] [] [] pos) (fun D σ H => tb (wKeep X.K c i j Wout D) D σ H) := by
  refine ⟨fun pins s σ H D I h => ?_⟩
  have ok := I.ok
  have hfr : X.A.frames = some (X.env :: X.outer) := by rw [ok.frames, hs]
  have hloc : Loc X.env.scope n := .inl hln
  refine wpAny_Try_except ?_
  refine wpAny_mono ((hb (wKeep X.K c i j Wout D) (X.pn ++ pins) (fun e s₁ => wpAny (model X.prog X.w) X.A (noteFrame e X.env) (fun _ s₂ => wpAny (model X.prog X.w) X.A (setFlight e none) (fun _ s₃ =>
    wpAny (model X.prog X.w) X.A (handleBy e X.env [.ExceptHandler (some (.Name x np)) (some n) [.Assign [.Name y p1] (.Name n p2) p3] pos']) (SP X pins D) X.xe s₃) X.xe s₂) X.xe s₁) (fun u s' xx => ?_) PassesOwn.looking).run [] s σ H D (I.toTry _) h) (fun f s1 hsp => ?_) (fun e s1 he => he)
  · obtain ⟨a, B, sI, pins', σ', H', cls, d, rfl, J', nb, up, sky, na, os, ag, b, hb1, hyes, hno⟩ := xx
    have J : L2.Inv X pins σ' H' sI := J'.ofTry ok
    rw [show (X.tr (X.pn ++ pins) _).stack = X.env :: X.outer from hs] at sky
    refine Sky.land Zc.steady hfr hf sky fun h3 fl3 up3 => ?_
    have J3 : L2.Inv X pins σ' H' { s' with heap := h3 } := J.landed nb fl3.1 (up.trans up3) os ag
    obtain ⟨oe3, vs3, he3, hz3, hd3⟩ := fl3.there
    have nfr : a ∉ frs (X.env :: X.outer) := fun hm => by
      obtain ⟨_, o', e', hnf⟩ := fl3.2.2.1.mem hm
      rw [he3] at e'; cases e'
      exact hnf _ hd3
    have nL : a ≠ X.env.locals := fun z => nfr (List.mem_filterMap.mpr ⟨X.env, List.mem_cons_self, by rw [hf, z]⟩)
    have nF : a ∉ X.fs := fun hm => by
      obtain ⟨e, he, q⟩ := List.mem_filterMap.mp hm
      exact nfr (List.mem_filterMap.mpr ⟨e, List.mem_cons_of_mem _ he, q⟩)
    have nI : sI.heap.get? a = none := by
      cases e : sI.heap.get? a with
      | none => rfl
      | some o =>
        have q := nb a o e (by rw [show (X.tr (X.pn ++ pins) _).stack = X.env :: X.outer from hs]; exact nfr)
        rw [fl3.2.1] at q
        cases q
    have n0 : X.s_0.heap.get? a = none := by
      cases e : X.s_0.heap.get? a with
      | none => rfl
      | some o =>
        obtain ⟨o', q⟩ := J.base.there a o e (by rw [hex]; exact List.not_mem_nil)
        rw [nI] at q
        cases q
    have other : ∀ p, p ∈ X.pn ++ pins → p.1 ≠ a := fun p hp z => by
      have q := (J.pin p hp).1
      rw [z, nI] at q
      cases q
    have S3 := J3.suite he3 hd3 na nL nF
    refine wpAny_handleBy_cons (codeAny_handlers_test ?_) (by intro q; cases q)
    have LT : PySem.W.Looks (model X.prog X.w) h3 (typeOf (.ref a)) cls := fun A Q E s k q => wpAny_typeOf_ref (k _ _ he3) (by rw [hz3.1]; exact q)
    have LM := PySem.W.exm_one (M := model X.prog X.w) (J3.kIn) LT hb1
    have test : ∀ {Q : Value → Shared → Prop} {E : Value → Shared → Prop}, Q c { s' with heap := h3 } → wpAny (model X.prog X.w) (X.A.mark (some (.ref a))) (eval (.Name x np) X.env) Q E { s' with heap := h3 } := fun {Q E} q => by
      obtain ⟨hg, hdbg, hm | ⟨hm, hv, hnn⟩⟩ := hc
      · exact ld_glob (X := X.suite a ((a, oe3) :: (X.pn ++ pins))) S3 hg hm q hdbg
      · exact ld_blt (X := X.suite a ((a, oe3) :: (X.pn ++ pins))) S3 hg hm hv q hnn hdbg
    refine test (LM.here ?_)
    cases b with
    | true =>
      refine codeAny_handlers_suite_as ?_
      refine HandSPX.lands_againZ fl3 fun h4 fl4 up4 => ?_
      have J4 : L2.Inv X pins σ' H' { s' with heap := h4 } := J.landed nb fl4.1 ((up.trans up3).trans up4) os ag
      obtain ⟨oe4, vs4, he4, hz4, hd4⟩ := fl4.there
      have S4 := J4.suite he4 hd4 na nL nF
      refine store_ok (X := X.suite a ((a, oe4) :: (X.pn ++ pins))) (v := .ref a) S4 hN hi hloc rfl (fun s5 S5 => ?_) (.inr hln)
      have hil : i < (σ'.set i (some (V.ref a))).length := by
        have z := (List.getElem?_eq_some_iff.mp hi).1
        have l := J.len
        rw [List.length_set]
        omega
      have hsu : PS (X.suite a ((a, oe4) :: (X.pn ++ pins))) (.Assign [.Name y p1] (.Name n p2) p3) (tAsg (tVar i) (gName j)) := ps_set (X := X.suite a ((a, oe4) :: (X.pn ++ pins))) (i := j) hN hj hly (pe_var (X := X.suite a ((a, oe4) :: (X.pn ++ pins))) (i := i) hi (.inl hln) hdn hcn) hsw hfy
      refine wpAny_mono ((pss_one hsu).run [] s5 _ H' { nx := fun σ6 H6 => σ6 = (σ'.set i (some (V.ref a))).set j (some (V.ref a)) ∧ H6 = H', rt := fun _ _ => False } S5 ⟨V.ref a, ?_, rfl, rfl⟩) (fun f s6 hsp => ?_) (fun _ _ z => False.elim z)
      · rw [List.getElem?_eq_getElem hil]
        simp
      cases f with
      | next =>
        obtain ⟨σ6, H6, S6, e6, e7⟩ := hsp
        subst e6 e7
        have K6 : L2.Inv X ((a, oe4) :: pins) ((σ'.set i (some (V.ref a))).set j (some (V.ref a))) H6 s6 := ⟨ok, S6.os, S6.bare, S6.base, S6.loc, S6.cell, S6.free, S6.freeC, fun p hp => S6.pin p (by
          rw [List.append_nil]
          rcases List.mem_append.mp hp with z | z
          · exact List.mem_cons_of_mem _ (List.mem_append_left _ z)
          · rcases List.mem_cons.mp z with z | z
            · rw [z]; exact List.mem_cons_self ..
            · exact List.mem_cons_of_mem _ (List.mem_append_right _ z)), S6.hok, S6.len⟩
        exact gone_ok K6 hN hi hln fun s7 J7 => ⟨_, _, track J7 hd4 n0 other, hyes rfl a oe4 na hz4 ⟨_, hd4⟩⟩
      | brk =>
        obtain ⟨_, _, _, q⟩ := hsp
        exact q.elim
      | cont =>
        obtain ⟨_, _, _, q⟩ := hsp
        exact q.elim
      | ret u =>
        obtain ⟨_, _, _, _, _, q⟩ := hsp
        exact q.elim
    | false =>
      show wpAny _ X.A (handleBy (.ref a) X.env []) _ _ _
      refine wpAny_handleBy_nil ?_
      obtain ⟨k1, k2, k3, oe, vs, T, oT, ts', he, hz, hd, h1, hr⟩ := id fl3
      unfold PySem.passOn
      refine wpAny_bind (wpAny_field he hd h1 ?_)
      rw [if_neg (show ¬ ((Value.ref T == Value.none) = true) from by simp)]
      have fin : wpAny (model X.prog X.w) X.A (setFlight (.ref a) X.env.frame) (fun _ s4 => wpAny (model X.prog X.w) X.A (throw (.ref a) : Sem Flow) (SP X pins D) X.xe s4) X.xe { s' with heap := h3 } := by
        rw [hf]
        refine HandSPX.setFlight_upZ fl3 fun h4 hh4 up4 => wpAny_throw (tk _ _ ?_)
        exact ⟨a, B, sI, pins, σ', H', cls, d, rfl, J, nb, (up.trans up3).trans up4, .inr (.inr (by rw [hs]; exact hh4)), na, os, ag, hno rfl⟩
      first
        | exact wpAny_bind (wpAny_pure (wpAny_bind fin))
        | exact wpAny_bind fin
  · cases f with
    | next =>
      obtain ⟨σ', H', J', q⟩ := hsp
      exact wpAny_execs_nil ⟨σ', H', J'.ofTry ok, q⟩
    | brk =>
      obtain ⟨σ', H', J', q⟩ := hsp
      exact ⟨σ', H', J'.ofTry ok, q⟩
    | cont =>
      obtain ⟨σ', H', J', q⟩ := hsp
      exact ⟨σ', H', J'.ofTry ok, q⟩
    | ret u =>
      obtain ⟨v, σ', H', J', r, q⟩ := hsp
      exact ⟨v, σ', H', J'.ofTry ok, r, q⟩
end
end NF
namespace NF
open PySem L2

def wTry (K : PySem.W.Frag) (cF : Addr) (i j : Nat) (wb : WSX) : WS := fun R Γ M => wb { R with xc := fun Γ' C M' => PySem.W.exmOne K (.ref C) (.ref cF) = some true ∧ ∀ a, a ∉ dom M' → R.nx (((Γ'.set i (some (.op (.ref a)))).set j (some (.op (.ref a)))).set i none) ((a, MO.exc C) :: M') } Γ M
section
variable {X : Cx}
theorem ds_try {x n y : Str} {cF : Addr} (i j : Nat) {body : List Stmt} {np pos pos' p1 p2 p3 : Pos} {wb : WSX} {K : PySem.W.Frag} {mg : Str → Option Value} (hN : X.N.Nodup) (hm : mg x = some (.ref cF))
    (hb : ∀ (W : WX) (pn : List (Addr × Obj)) (xe : Value → Shared → Prop), Takes (X.tr pn xe) W → PXB (X.tr pn xe) W body wb)
    (hs : X.stack = X.env :: X.outer := by rfl) (hf : X.env.frame = some X.env.locals := by rfl) (hex : X.ex = [] := by rfl) (hi : X.N[i]? = some n := by rfl) (hj : X.N[j]? = some y := by rfl) (hln : X.env.kindOf n = some .local := by rfl) (hly : Loc X.env.scope y := by first | exact .inl rfl | exact .inr rfl)
    (hfy : X.fn y = true ∨ X.env.scope.names.lookup y = some .local := by first | exact .inl rfl | exact .inr rfl) (hg : Gl X x := by rfl) (hdb : (x == ("__debug__" : Str)) = false := by decide) (hdn : (n == ("__debug__" : Str)) = false := by decide) (hcn : (n == ("__classdict__" : Str)) = false := by decide)
    (hsw : swapsWith (.Name n p2) (some (.Name y p1)) p3.line X.env = pure false := by rfl) (hK : X.K = K := by rfl) (hM : X.mg = mg := by rfl) :
    PDS X (.Try body [.ExceptHandler (some (.Name x np)) (some n) [.Assign [.Name y p1] (.Name n p2) p3] pos'] [] [] pos) (wTry K cF i j wb) := by
  subst hK hM
  refine PS.weak (ps_try_keep (c := .ref cF) (Wout := fun _ _ _ _ => False) (tb := fun W => sxOf X.K W wb) hs hf hex hN hi hj hln hly hfy ⟨hg, hdb, .inl hm⟩ takes0 hdn hcn hsw fun W pn xe tk _ => hb W pn xe tk) fun E σ H ⟨Γ, M, P, R, s, sa, h, q⟩ => ?_
  refine ⟨Γ, M, P, _, s, sa, h, q, fun Γ' C M' ⟨ex, kk⟩ σ' P' H' g s' => ⟨true, ex, fun _ a oe na hz hv => ?_, fun z => (by cases z)⟩⟩
  have g2 := Grow.owned (o := .frz oe (.own a)) (mo := MO.exc C) g.sat na ⟨oe, _, upd_same, hz, hv⟩
  exact q.nx _ _ (kk a (nodom g.sat na)) _ _ _ (g.trans g2) ((((s'.up g2.le).set (.op _) i).set (.op _) j).unset i)
end

def aIsE (K : PySem.W.Frag) : ARC := fun ds M Φ => ∃ (a C : Addr) (c : V) (cv : Value) (b : Bool), ds = [.op (.ref a), .op c] ∧ (a, MO.exc C) ∈ M ∧ ExcC K C ∧ (∀ u, RelV c u → u = cv) ∧ PySem.W.kitOne K (.ref C) cv = some b ∧ Φ (.bl b) M
section
variable {X : Cx}
theorem c_isE : CallR X (.builtin "isinstance") (cOf X.K (aIsE X.K)) := by
  intro pins s σ H vs us Q I r ⟨ds, M, P, Φ, ra, sa, ⟨a, C, c, cv, b, e, m, xc, hcv, hk, h⟩, q⟩
  subst e
  cases ra with
  | cons r1 r2 =>
    cases r2 with
    | cons r3 r4 =>
      cases r4
      cases r1
      cases r3
      cases r with
      | cons rx rr =>
        cases rr with
        | cons rt rr =>
          cases rr
          cases rx
          have ec := hcv _ rt
          subst ec
          obtain ⟨_, oe, u, ha, hz, vs, hv⟩ := sa.ob a (MO.exc C) m
          have hget : s.heap.get? a = some oe := (I.hok a _ ha).1
          have J : PySem.W.InstAt s.heap a oe C none := by
            obtain ⟨oc, od, oda, osl⟩ := oe
            obtain ⟨h1, h2⟩ := hz
            dsimp only at h1 h2 hv
            subst h1 h2 hv
            exact ⟨hget, rfl, rfl, trivial⟩
          exact PySem.W.kia_one (PySem.W.handS_kitx_exc xc.hg xc.hk xc.hs xc.hd xc.ha xc.hn xc.ht xc.hm) I.kIn J hk (fun z => nomatch z) fun tk => ⟨.bl b, H, I.kept (t' := tk) fun _ _ z => z, rfl, q.here sa h (.bl _)⟩
/-- a built-in class as a value -/
theorem d_ty {x : Str} {T : String} {pos : Pos} (hm : X.mg x = none) (hv : bootBuiltins x = some (.type T)) (hg : Gl X x := by rfl) (hn : x ≠ "__name__" := by decide) (hd : (x == ("__debug__" : Str)) = false := by decide) : PD X (.Name x pos) (wC (.op (.ty T))) :=
  PE.weak (pe_bltn (v := .ty T) hg hm hv rfl hn hd) (of_const fun _ _ => .op _)
end

def aIndex : D → List D → Mp → KD → Prop := fun x ds M Φ => (∃ (bs : List Bool) (b : Bool) (j : Nat), Now M x (.lst (bs.map D.bl)) ∧ bs.length < 100 ∧ ds = [.bl b] ∧ bs[j]? = some b ∧ (∀ m : Nat, m < j → bs[m]? ≠ some b) ∧ Φ (.int j) M) ∨
  ∃ (xs : List D) (d : D) (j : Nat), Now M x (.lst xs) ∧ ds = [d] ∧ D.eqOk (.lst xs) ∧ D.eqOk d ∧ xs[j]? = some d ∧ (∀ m : Nat, m < j → xs[m]? ≠ some d) ∧ Φ (.int j) M
theorem shaped_bools (bs : List Bool) : SeqAt.shaped (.list (bs.map PyData.bool)) = true := by
  have h1 : ∀ bs : List Bool, PyData.canLayAll0 (bs.map PyData.bool) = true := by
    intro bs
    induction bs with
    | nil => rfl
    | cons b bs ih => simp [PyData.canLayAll0, PyData.canLay0, ih]
  have h2 : ∀ bs : List Bool, PyData.depthAll (bs.map PyData.bool) = 0 := by
    intro bs
    induction bs with
    | nil => rfl
    | cons b bs ih => simp [PyData.depthAll, PyData.depth, ih]
  unfold SeqAt.shaped
  simp [PyData.canLay0, PyData.depth, h1, h2]
theorem dp_bools {K : PySem.W.Frag} {H : Hp} : ∀ bs : List Bool, DpAll K H (bs.map V.bl) (bs.map PyData.bool)
  | [] => .nil
  | b :: bs => .cons (.bl b) (dp_bools bs)
section
variable {X : Cx}
theorem m_index (hu : X.A.units + 65 < cLine) : MtR X "list.index" (mOf X.K aIndex) := MtR.weak (mt_indexD hu) fun x vs H Q ⟨d, ds, M, P, Φ, r1, r2, s, h, q⟩ => by
  rcases h with ⟨bs, b, j, nw, _, e, hj, hno, h⟩ | ⟨xs, y, j, nw, e, k1, k2, hj, hno, h⟩
  · subst e
    obtain ⟨c, us, rfl, hc, hw⟩ := nw.sqL s r1
    obtain rfl := RepAll.bls hw
    obtain ⟨w, rfl, rw1⟩ := r2.one'
    cases rw1
    refine ⟨c, .bl b, .bool b, bs.map PyData.bool, j, .bool b, rfl, rfl, .lst (SqL.of hc) (dp_bools bs), .bl b, shaped_bools bs, by cases b <;> rfl, by rw [List.getElem?_map, hj]; rfl, by simp [PyData.eqv], fun m z' hm hz' => ?_, q.here s h (.int _)⟩
    rw [List.getElem?_map] at hz'
    obtain ⟨b', hb', rfl⟩ := Option.map_eq_some_iff.mp hz'
    have : b' ≠ b := fun z => hno m hm (by rw [hb', z])
    simpa [PyData.eqv] using this
  · subst e
    obtain ⟨c, us, rfl, hc, hw⟩ := nw.sqL s r1
    obtain ⟨w, rfl, rw1⟩ := r2.one'
    have n' := nw.dp s r1 k1.1
    simp only [D.py] at n'
    have sh := k1.shaped
    simp only [D.py] at sh
    refine ⟨c, w, D.py y, D.pyAll xs, j, D.py y, rfl, rfl, n', dp_up s.sub _ _ (D.rep_py _ w k2.1 rw1), sh, k2.shaped, by rw [D.pyAll_map, List.getElem?_map, hj]; rfl, by rw [D.eqb_py k2 k2]; exact D.eqb_true.mpr rfl, fun m z' hm hz' => ?_, q.here s h (.int _)⟩
    rw [D.pyAll_map, List.getElem?_map] at hz'
    obtain ⟨y', hy', rfl⟩ := Option.map_eq_some_iff.mp hz'
    rw [D.eqb_py (k1.mem y' (List.mem_of_getElem? hy')) k2]
    exact D.eqb_false.mpr fun z => hno m hm (by rw [hy', z])
end
end NF
namespace NF
open PySem L2 PySem.W PyProof.Rows

def worthB (i : Int) : Bool := decide (0 ≤ i) && decide (i ≤ 99)
def keyB (k : Ky) : Bool := decide (1 ≤ k.1) && (decide (k.1 ≤ 999) && (decide (1 ≤ k.2) && decide (k.2 ≤ 5)))
def nameB (x : Str) : Bool := decide (1 ≤ x.length) && (decide (x.length ≤ 4) && x.cps.toList.all fun c => decide (c ∈ (Str.ofString "abcdefghijklmnopqrstuvwxyz").cps.toList))
theorem worthB_iff {i : Int} : worthB i = true ↔ WorthOk i := by simp [worthB, WorthOk]
theorem keyB_iff {k : Ky} : keyB k = true ↔ KeyOk k := by simp [keyB, KeyOk]
theorem small_of : ∀ c, c ∈ (Str.ofString "abcdefghijklmnopqrstuvwxyz").cps.toList → 97 ≤ c ∧ c ≤ 122 := by decide +kernel
theorem nameB_iff {x : Str} : nameB x = true ↔ NameOk x := by
  simp only [nameB, NameOk, Bool.and_eq_true, decide_eq_true_eq, List.all_eq_true]
  constructor
  · rintro ⟨h1, h2, h3⟩
    exact ⟨h1, h2, fun c hc => small_of c (h3 c hc)⟩
  · rintro ⟨h1, h2, h3⟩
    exact ⟨h1, h2, fun c hc => small_sign (h3 c hc).1 (h3 c hc).2⟩
/-- a deed, or the same with a word that is none -/
def rawD (r : Dd × Bool) : D := if r.2 = true then .tup (.int r.1.key.1 :: .int r.1.key.2 :: .str "old" :: r.1.tl) else r.1.d
def Short : Dd → Prop
  | .new _ n _ => n.length ≤ 100 ∧ PyData.strOk n = true
  | .name _ _ n => n.length ≤ 100 ∧ PyData.strOk n = true
  | _ => True
def kltB (a b : Ky) : Bool := HT.lexLt [a.1, a.2] [b.1, b.2]
theorem kltB_iff {a b : Ky} : kltB a b = true ↔ klt a b := lexLt_klt
def okB : Dd → Bool
  | .new k n w => keyB k && (nameB n && worthB w)
  | .name k a n => keyB k && (keyB a && (kltB a k && nameB n))
  | .worth k a w => keyB k && (keyB a && (kltB a k && worthB w))
  | .drop k a => keyB k && (keyB a && kltB a k)
def deedB (r : Dd × Bool) : Bool := !r.2 && okB r.1
theorem okB_iff {x : Dd} : okB x = true ↔ x.ok := by
  cases x <;> simp only [okB, Dd.ok, Bool.and_eq_true, keyB_iff, nameB_iff, worthB_iff, kltB_iff]
theorem short_ok {x : Dd} (h : x.ok) : Short x := by
  cases x with
  | new k n w => exact ⟨by have := h.2.1.2.1; omega, nameOk_str h.2.1⟩
  | name k a n => exact ⟨by have := h.2.2.2.2.1; omega, nameOk_str h.2.2.2⟩
  | worth k a w => trivial
  | drop k a => trivial
structure RawOk (rs : List (Dd × Bool)) : Prop where
  short : ∀ r, r ∈ rs → Short r.1
  few : rs.length < 64
/-- one is none, or two are unlike of one stamp and hand -/
def Bad (rs : List (Dd × Bool)) : Prop := (∃ r, r ∈ rs ∧ deedB r = false) ∨ ∃ r s, r ∈ rs ∧ s ∈ rs ∧ r.1.key = s.1.key ∧ r.1 ≠ s.1
def spBad (C : Addr) (n : Nat) : ASpX := fun ds M Φ Ξ => ∃ (d : D) (rest : List D) (rs : List (Dd × Bool)), ds = d :: rest ∧ rest.length = n ∧ Now M d (.lst (rs.map rawD)) ∧ RawOk rs ∧ Bad rs ∧ Ξ C M
theorem raw_false (x : Dd) : rawD (x, false) = x.d := rfl
theorem raw_map (xs : List Dd) : (xs.map fun x => (x, false)).map rawD = xs.map Dd.d := by rw [List.map_map]; rfl
/-- fewer keys than deeds -/
theorem IsCard.less {ds : List D} {n m : Nat} {f : D → D} (h : IsCard ds n) (g : IsCard (ds.map f) m) {a b : D} (ha : a ∈ ds) (hb : b ∈ ds) (ne : a ≠ b) (e : f a = f b) : m < n := by
  obtain ⟨L, h1, h2, rfl⟩ := h
  obtain ⟨L', g1, g2, rfl⟩ := g
  have ha' := (h2 a).mpr ha
  obtain ⟨s, t, rfl⟩ := List.append_of_mem ha'
  have hb' : b ∈ s ++ t := by
    have := (h2 b).mpr hb
    rcases List.mem_append.mp this with z | z
    · exact List.mem_append_left _ z
    · rcases List.mem_cons.mp z with z | z
      · exact absurd z.symm ne
      · exact List.mem_append_right _ z
  have := nodup_le (l := L') (m := (s ++ t).map f) g1 fun x hx => by
    obtain ⟨d, hd, rfl⟩ := List.mem_map.mp ((g2 x).mp hx)
    have hd' := (h2 d).mpr hd
    rcases List.mem_append.mp hd' with z | z
    · exact List.mem_map.mpr ⟨d, List.mem_append_left _ z, rfl⟩
    · rcases List.mem_cons.mp z with z | z
      · subst z
        exact List.mem_map.mpr ⟨b, hb', e.symm⟩
      · exact List.mem_map.mpr ⟨d, List.mem_append_right _ z, rfl⟩
  simp at this ⊢
  omega
theorem OkX.join {P : Program} {w : World} {K : PySem.W.Frag} {mg : Str → Option Value} {base : Heap} {f : Addr} {fd : FuncData} {ps : List Str} {j k n : Nat} {sp : ASp} {spx : ASpX} (F : OkD P w K mg base f fd ps j sp) (G : OkX P w K mg base f fd ps k spx) (h1 : j ≤ n) (h2 : k ≤ n) :
    OkX P w K mg base f fd ps n (fun ds M Φ Ξ => sp ds M Φ ∨ spx ds M Φ Ξ) := by
  refine ⟨fun vs H Q E ⟨ds, M, P', Φ, Ξ, r, s, h, q, qx⟩ => ?_, fun A outer s H args us vs Q E hr he hb hv ⟨ds, M, P', Φ, Ξ, r, sa, h, q, qx⟩ => ?_⟩
  · rcases h with h | h
    · exact F.len vs H Q E ⟨ds, M, P', Φ, r, s, h, q⟩
    · exact G.len vs H Q E ⟨ds, M, P', Φ, Ξ, r, s, h, q, qx⟩
  · rcases h with h | h
    · refine codeAny_mono (F.run A outer s H args us vs Q E (hr.mono h1) he hb hv ⟨ds, M, P', Φ, r, sa, h, q⟩) fun r s' hq => ?_
      cases r with
      | error e => exact hq.elim
      | ok fl =>
        cases fl with
        | ret u => exact hq
        | next => exact hq
        | brk => exact hq
        | cont => exact hq
    · exact G.run A outer s H args us vs Q E (hr.mono h2) he hb hv ⟨ds, M, P', Φ, Ξ, r, sa, h, q, qx⟩
end NF
namespace NF
open PySem L2

section
variable {X : Cx}
/-- str(x), an int or a text -/
def strT : D → Option Str
  | .int i => some (toString i)
  | .str x => some x
  | _ => none
def aStrA : ARC := fun ds M Φ => (∃ i : Int, ds = [.int i] ∧ i.natAbs.log2 < 1920 ∧ Φ (.str (toString i)) M) ∨ ∃ x : Str, ds = [.str x] ∧ Φ (.str x) M
theorem c_strA : CallR X (.type "str") (cOf X.K aStrA) := CallR.weak (CallR.or call_str_int SkE.call_str_str) fun vs H Q ⟨ds, M, P, Φ, r, s, h, q⟩ => by
  rcases h with ⟨i, e, hb, h⟩ | ⟨x, e, h⟩
  · subst e
    obtain ⟨v, rfl, r1⟩ := r.one'
    cases r1
    exact .inl ⟨i, rfl, hb, q.here s h (.str _)⟩
  · subst e
    obtain ⟨v, rfl, r1⟩ := r.one'
    cases r1
    exact .inr ⟨x, rfl, q.here s h (.str _)⟩
/-- sep.join(xs), xs owned or not -/
def aJoinO : D → List D → Mp → KD → Prop := fun x ds M Φ => ∃ (z : Str) (d : D) (zs : List Str), x = .str z ∧ ds = [d] ∧ Now M d (.lst (zs.map D.str)) ∧ (zs.map (·.length)).sum + zs.length * z.length ≤ 16777216 ∧ Φ (.str (Txt.join z zs)) M
theorem m_joinO : MtR X "str.join" (mOf X.K aJoinO) := MtR.weak mt_join fun x vs H Q ⟨d, ds, M, P, Φ, r1, r2, s, ⟨z, d1, zs, e1, e2, nw, hl, h⟩, q⟩ => by
  subst e1 e2
  cases r1
  obtain ⟨v, rfl, rv⟩ := r2.one'
  obtain ⟨b, us, rfl, hb, hw⟩ := nw.sqL s rv
  obtain rfl := RepAll.strs hw
  exact ⟨z, b, zs, rfl, rfl, .inl (SqL.of hb), hl, q.here s h (.str _)⟩
/-- xs.extend(ys) -/
def aExtend : D → List D → Mp → KD → Prop := fun x ds M Φ => ∃ a d xs ys A B, x = .op (.ref a) ∧ ds = [d] ∧ M = A ++ (a, MO.lst xs) :: B ∧ Now M d (.lst ys) ∧ xs.length + ys.length ≤ sizeLine ∧ Φ .non (A ++ (a, MO.lst (xs ++ ys)) :: B)
theorem m_extend : MtR X "list.extend" (mOf X.K aExtend) := MtR.weak (show MtR X "list.extend" rExtend from mt_extend) fun x vs H Q ⟨d, ds, M, P, Φ, r1, r2, s, ⟨a, d1, xs, ys, A, B, e1, e2, e3, nw, hl, h⟩, q⟩ => by
  subst e1 e2 e3
  cases r1
  obtain ⟨v, rfl, rv⟩ := r2.one'
  obtain ⟨b, ws, rfl, hb, hw⟩ := nw.sqL s rv
  obtain ⟨_, us, h1, h2⟩ := s.ob a (MO.lst xs) (by simp)
  exact ⟨a, b, us, ws, rfl, rfl, h1, hb, by rw [h2.length, hw.length]; exact hl, q _ _ h _ _ _ (Grow.wrote (o' := MO.lst (xs ++ ys)) s ⟨_, upd_same, h2.append hw⟩) .non⟩
/-- xs.insert(i, y) -/
def aInsert : D → List D → Mp → KD → Prop := fun x ds M Φ => ∃ (a : Addr) (i : Nat) (y : D) (xs : List D) (A B : Mp), x = .op (.ref a) ∧ ds = [.int i, y] ∧ M = A ++ (a, MO.lst xs) :: B ∧ xs.length < sizeLine ∧ i < 1000000 ∧ Φ .non (A ++ (a, MO.lst (xs.take i ++ [y] ++ xs.drop i)) :: B)
theorem m_insert : MtR X "list.insert" (mOf X.K aInsert) := MtR.weak mt_insert fun x vs H Q ⟨d, ds, M, P, Φ, r1, r2, s, ⟨a, i, y, xs, A, B, e1, e2, e3, hl, hi, h⟩, q⟩ => by
  subst e1 e2 e3
  cases r1
  cases r2 with
  | cons r3 r4 =>
    cases r3
    obtain ⟨v, rfl, rv⟩ := r4.one'
    obtain ⟨_, us, h1, h2⟩ := s.ob a (MO.lst xs) (by simp)
    refine ⟨a, us, i, v, rfl, rfl, h1, by rw [h2.length]; exact hl, by omega, by omega, q _ _ h _ _ _ (Grow.wrote (o' := MO.lst (xs.take i ++ [y] ++ xs.drop i)) s ⟨_, upd_same, ?_⟩) .non⟩
    rw [Int.toNat_natCast]
    exact ((h2.take i).append (.one rv)).append (h2.drop i)
/-- isinstance(x, T) of data -/
def tyOfD (M : Mp) (d : D) (T : String) : Prop := match d with
  | .non => T = "NoneType"
  | .bl _ => T = "bool"
  | .int _ => T = "int"
  | .str _ => T = "str"
  | .tup _ => T = "tuple"
  | .lst _ => T = "list"
  | .dic _ _ => T = "dict"
  | .op (.ref a) => (T = "list" ∧ ∃ ds, (a, MO.lst ds) ∈ M) ∨ (T = "dict" ∧ ∃ kvs, (a, MO.dic kvs) ∈ M)
  | _ => False
def aIsD : ARC := fun ds M Φ => ∃ (x : D) (T U : String) (b : Bool), ds = [x, .op (.ty U)] ∧ tyOfD M x T ∧ (∀ ks es, x ≠ .dic ks es) ∧ kitB T U = some b ∧ Φ (.bl b) M
theorem c_isD : CallR X (.builtin "isinstance") (cOf X.K aIsD) := CallR.weak call_isi fun vs H Q ⟨ds, M, P, Φ, r, s, ⟨x, T, U, b, e, ty, nd, hk, h⟩, q⟩ => by
  subst e
  cases r with
  | @cons v1 _ _ _ r1 r2 =>
    obtain ⟨v2, rfl, r3⟩ := r2.one'
    cases r3
    have go : ∀ v, TyX X.K H v (.type T) → rIsi X.K [v, .ty U] H Q := fun v t => ⟨v, .ty U, .type T, .type U, b, rfl, .ty U, t, kit_ty hk, q.here s h (.bl _)⟩
    cases x with
    | non => cases r1; cases ty; exact go _ (.base .non)
    | bl y => cases r1; cases ty; exact go _ (.base (.bl y))
    | int i => cases r1; cases ty; exact go _ (.base (.int i))
    | str y => cases r1; cases ty; exact go _ (.base (.str y))
    | tup l =>
      cases ty
      cases r1 with
      | tup t a => exact go _ (.base (.tup (s.sub.tup t)))
    | lst l =>
      cases ty
      cases r1 with
      | lst t a => exact go _ (.base (.lst (s.sub.lst t)))
    | dic ks es => exact absurd rfl (nd ks es)
    | rcd _ _ _ => exact ty.elim
    | scr _ => exact ty.elim
    | op z =>
      have e : v1 = z := by cases r1; rfl
      subst e
      cases v1 with
      | ref a =>
        rcases ty with ⟨rfl, l, m⟩ | ⟨rfl, kvs, m⟩
        · obtain ⟨_, us, h1, h2⟩ := s.ob _ _ m
          exact go _ (.base (.lst h1))
        · obtain ⟨_, us, h1, h2⟩ := s.ob _ _ m
          exact go _ (.base (.dT h1))
      | _ => exact ty.elim
end

def keyText (k : Ky) : Str := ((toString k.1 : Str) ++ ".") ++ (toString k.2 : Str)
def Dd.words : Dd → List Str
  | .new k n w => [keyText k, "new", n, toString w]
  | .name k a n => [keyText k, "name", keyText a, n]
  | .worth k a w => [keyText k, "worth", keyText a, toString w]
  | .drop k a => [keyText k, "drop", keyText a]
def Dd.text (x : Dd) : Str := Txt.join " " x.words
noncomputable def textOf (ds : List Dd) : Str := Txt.join "\n" ((ordd ds).map Dd.text)
theorem num_len : ∀ n : Nat, n < 1000 → (Str.ofString (toString (n : Int))).length ≤ 3 ∧ PyData.strOk (Str.ofString (toString (n : Int))) = true := by decide +kernel
theorem num_txt {i : Int} (h0 : 0 ≤ i) (h1 : i ≤ 999) : (toString i : Str).length ≤ 3 ∧ PyData.strOk (toString i : Str) = true ∧ i.natAbs.log2 < 1920 := by
  obtain ⟨n, rfl⟩ := Int.eq_ofNat_of_zero_le h0
  obtain ⟨h2, h3⟩ := num_len n (by omega)
  refine ⟨h2, h3, ?_⟩
  rw [Int.natAbs_natCast]
  by_cases z : n = 0
  · subst z; decide
  · have := (Nat.log2_lt z (k := 10)).mpr (by omega)
    omega
theorem len_append (x y : Str) : (x ++ y).length = x.length + y.length := by
  show (x.cps ++ y.cps).size = _
  rw [Array.size_append]; rfl
theorem keyText_ok {k : Ky} (h : KeyOk k) : (keyText k).length ≤ 7 ∧ PyData.strOk (keyText k) = true := by
  obtain ⟨h1, h2, h3, h4⟩ := h
  obtain ⟨a1, a2, _⟩ := num_txt (i := k.1) (by omega) h2
  obtain ⟨b1, b2, _⟩ := num_txt (i := k.2) (by omega) (by omega)
  have d : (Str.ofString ".").length = 1 ∧ PyData.strOk (Str.ofString ".") = true := by decide +kernel
  unfold keyText
  refine ⟨?_, strOk_app (strOk_app a2 d.2) b2⟩
  rw [len_append, len_append, d.1]
  omega
theorem wlen : ∀ s ∈ [Str.ofString "new", Str.ofString "name", Str.ofString "worth", Str.ofString "drop"], s.length ≤ 8 ∧ PyData.strOk s = true := by decide +kernel
theorem words_ok {x : Dd} (h : x.ok) : x.words.length ≤ 4 ∧ ∀ z, z ∈ x.words → z.length ≤ 8 ∧ PyData.strOk z = true := by
  have kt : ∀ {k : Ky}, KeyOk k → (keyText k).length ≤ 8 ∧ PyData.strOk (keyText k) = true := fun hk => ⟨by have := (keyText_ok hk).1; omega, (keyText_ok hk).2⟩
  have wo : ∀ {w : Int}, WorthOk w → (toString w : Str).length ≤ 8 ∧ PyData.strOk (toString w : Str) = true := fun hw => by
    obtain ⟨a, b, _⟩ := num_txt hw.1 (by have := hw.2; omega)
    exact ⟨by omega, b⟩
  have nm : ∀ {n : Str}, NameOk n → n.length ≤ 8 ∧ PyData.strOk n = true := fun hn => ⟨by have := hn.2.1; omega, nameOk_str hn⟩
  cases x with
  | new k n w =>
    refine ⟨by simp [Dd.words], fun z hz => ?_⟩
    simp only [Dd.words, List.mem_cons, List.not_mem_nil, or_false] at hz
    rcases hz with rfl | rfl | rfl | rfl
    · exact kt h.1
    · exact wlen _ (by simp)
    · exact nm h.2.1
    · exact wo h.2.2
  | name k a n =>
    refine ⟨by simp [Dd.words], fun z hz => ?_⟩
    simp only [Dd.words, List.mem_cons, List.not_mem_nil, or_false] at hz
    rcases hz with rfl | rfl | rfl | rfl
    · exact kt h.1
    · exact wlen _ (by simp)
    · exact kt h.2.1
    · exact nm h.2.2.2
  | worth k a w =>
    refine ⟨by simp [Dd.words], fun z hz => ?_⟩
    simp only [Dd.words, List.mem_cons, List.not_mem_nil, or_false] at hz
    rcases hz with rfl | rfl | rfl | rfl
    · exact kt h.1
    · exact wlen _ (by simp)
    · exact kt h.2.1
    · exact wo h.2.2.2
  | drop k a =>
    refine ⟨by simp [Dd.words], fun z hz => ?_⟩
    simp only [Dd.words, List.mem_cons, List.not_mem_nil, or_false] at hz
    rcases hz with rfl | rfl | rfl
    · exact kt h.1
    · exact wlen _ (by simp)
    · exact kt h.2.1
theorem joinL_mem {S : List Nat} : ∀ {l : List (List Nat)} {c : Nat}, c ∈ TL.joinL S l → c ∈ S ∨ ∃ p, p ∈ l ∧ c ∈ p
  | [], c, h => by cases h
  | [p], c, h => .inr ⟨p, by simp, h⟩
  | p :: q :: r, c, h => by
    simp only [TL.joinL] at h
    rcases List.mem_append.mp h with z | z
    · exact .inr ⟨p, by simp, z⟩
    · rcases List.mem_append.mp z with z | z
      · exact .inl z
      · rcases joinL_mem z with z | ⟨p', hp, z⟩
        · exact .inl z
        · exact .inr ⟨p', List.mem_cons_of_mem _ hp, z⟩
theorem joinL_len {S : List Nat} {m : Nat} : ∀ {l : List (List Nat)}, (∀ p, p ∈ l → p.length ≤ m) → (TL.joinL S l).length ≤ l.length * (m + S.length)
  | [], _ => by simp [TL.joinL]
  | [p], h => by
    have := h p (by simp)
    simp [TL.joinL]; omega
  | p :: q :: r, h => by
    have h1 := h p (by simp)
    have h2 := joinL_len (S := S) (m := m) (l := q :: r) fun p' hp => h p' (List.mem_cons_of_mem _ hp)
    simp only [TL.joinL, List.length_append, List.length_cons, Nat.add_mul] at *
    omega
theorem strOk_iff {x : Str} : PyData.strOk x = true ↔ ∀ c, c ∈ x.cps.toList → PyData.strOk ⟨#[c]⟩ = true := by
  unfold PyData.strOk
  rw [Array.all_eq_true]
  constructor
  · intro h c hc
    obtain ⟨i, hi, rfl⟩ := List.getElem_of_mem hc
    have := h i (by simpa using hi)
    simpa using this
  · intro h i hi
    have := h x.cps[i] (by simp)
    simpa using this
theorem join_ok {z : Str} {l : List Str} {m : Nat} (hz : PyData.strOk z = true) (h : ∀ x, x ∈ l → x.length ≤ m ∧ PyData.strOk x = true) : (Txt.join z l).length ≤ l.length * (m + z.length) ∧ PyData.strOk (Txt.join z l) = true := by
  have e : (Txt.join z l).cps.toList = TL.joinL z.cps.toList (l.map fun x => x.cps.toList) := by
    rw [TL.join_eq]
    exact TL.tl_join z l
  constructor
  · show (Txt.join z l).cps.size ≤ _
    rw [← Array.length_toList, e]
    have := joinL_len (S := z.cps.toList) (m := m) (l := l.map fun x => x.cps.toList) fun p hp => by
      obtain ⟨x, hx, rfl⟩ := List.mem_map.mp hp
      rw [Array.length_toList]
      exact (h x hx).1
    rw [List.length_map, Array.length_toList] at this
    exact this
  · rw [strOk_iff, e]
    intro c hc
    rcases joinL_mem hc with y | ⟨p, hp, y⟩
    · exact strOk_iff.mp hz c y
    · obtain ⟨x, hx, rfl⟩ := List.mem_map.mp hp
      exact strOk_iff.mp (h x hx).2 c y
theorem sum_le {l : List Str} {m : Nat} : (∀ x, x ∈ l → x.length ≤ m) → (l.map (·.length)).sum ≤ l.length * m := by
  induction l with
  | nil => simp
  | cons a l ih =>
    intro h
    have h1 := h a (by simp)
    have h2 := ih fun x hx => h x (List.mem_cons_of_mem _ hx)
    simp only [List.map_cons, List.sum_cons, List.length_cons, Nat.add_mul]
    omega
theorem sp_ok : (Str.ofString " ").length = 1 ∧ PyData.strOk (Str.ofString " ") = true ∧ (Str.ofString "\n").length = 1 ∧ PyData.strOk (Str.ofString "\n") = true := by decide +kernel
theorem text_ok {x : Dd} (h : x.ok) : x.text.length ≤ 40 ∧ PyData.strOk x.text = true := by
  obtain ⟨h1, h2⟩ := words_ok h
  obtain ⟨a, b⟩ := join_ok (z := " ") (l := x.words) (m := 8) sp_ok.2.1 h2
  refine ⟨?_, b⟩
  have : x.words.length * (8 + (Str.ofString " ").length) ≤ 4 * 9 := by rw [sp_ok.1]; exact Nat.mul_le_mul_right _ h1
  exact Nat.le_trans a (by omega)
theorem textOf_ok {ds : List Dd} (g : Good ds) : PyData.strOk (textOf ds) = true := (join_ok (m := 40) sp_ok.2.2.2 fun z hz => by
  obtain ⟨x, hx, rfl⟩ := List.mem_map.mp hz
  exact text_ok (g.ok x (mem_ordd.mp hx))).2
theorem cut_drop {ds : List D} (n : Nat) : cutD ds (some (n : Int)) none = ds.drop n := by
  unfold cutD
  rw [HT.sIx_none, HT.sIx_nat]
  by_cases h : n ≤ ds.length
  · rw [Nat.min_eq_left h, List.take_of_length_le (by rw [List.length_drop]; omega)]
  · rw [Nat.min_eq_right (by omega), List.drop_of_length_le (Nat.le_refl _), List.drop_of_length_le (by omega)]
    simp
theorem c_isEk {X : Cx} {K : PySem.W.Frag} (hK : X.K = K := by rfl) : CallR X (.builtin "isinstance") (cOf X.K (aIsE K)) := by
  subst hK
  exact c_isE
theorem isE {K : PySem.W.Frag} {M : Mp} {Φ : KD} {a C Y : Addr} {b : Bool} (m : (a, MO.exc C) ∈ M) (xc : ExcC K C) (hk : PySem.W.kitOne K (.ref C) (.ref Y) = some b) (h : Φ (.bl b) M) : aIsE K [.op (.ref a), .op (.ref Y)] M Φ := ⟨a, C, .ref Y, .ref Y, b, rfl, m, xc, fun u r => r, hk, h⟩
theorem isET {K : PySem.W.Frag} {M : Mp} {Φ : KD} {a C : Addr} {U : String} {b : Bool} (m : (a, MO.exc C) ∈ M) (xc : ExcC K C) (hk : PySem.W.kitOne K (.ref C) (.type U) = some b) (h : Φ (.bl b) M) : aIsE K [.op (.ref a), .op (.ty U)] M Φ := ⟨a, C, .ty U, .type U, b, rfl, m, xc, fun u r => r, hk, h⟩
theorem cut_d1 {ds : List D} : cutD ds (some 1) none = ds.drop 1 := cut_drop 1
theorem cut_d2 {ds : List D} : cutD ds (some 2) none = ds.drop 2 := cut_drop 2
theorem cut_d3 {ds : List D} : cutD ds (some 3) none = ds.drop 3 := cut_drop 3
theorem cut_d4 {ds : List D} : cutD ds (some 4) none = ds.drop 4 := cut_drop 4
theorem cut_t1 {ds : List D} : cutD ds none (some 1) = ds.take 1 := cut_nat 1
theorem cut_t3 {ds : List D} : cutD ds none (some 3) = ds.take 3 := cut_nat 3
theorem cut_t4 {ds : List D} : cutD ds none (some 4) = ds.take 4 := cut_nat 4
theorem sz_0 : (0 ≤ sizeLine) = True := by rw [sizeLine_eq]; simp
theorem sz_1 : (1 ≤ sizeLine) = True := by rw [sizeLine_eq]; simp
theorem sz_2 : (2 ≤ sizeLine) = True := by rw [sizeLine_eq]; simp
theorem sz_3 : (3 ≤ sizeLine) = True := by rw [sizeLine_eq]; simp
theorem sz_4 : (4 ≤ sizeLine) = True := by rw [sizeLine_eq]; simp
theorem sz_5 : (5 ≤ sizeLine) = True := by rw [sizeLine_eq]; simp
theorem sz_6 : (6 ≤ sizeLine) = True := by rw [sizeLine_eq]; simp
theorem sz_7 : (7 ≤ sizeLine) = True := by rw [sizeLine_eq]; simp
theorem sz_8 : (8 ≤ sizeLine) = True := by rw [sizeLine_eq]; simp
theorem sz_9 : (9 ≤ sizeLine) = True := by rw [sizeLine_eq]; simp
theorem sz_10 : (10 ≤ sizeLine) = True := by rw [sizeLine_eq]; simp
theorem sz_11 : (11 ≤ sizeLine) = True := by rw [sizeLine_eq]; simp
theorem sz_12 : (12 ≤ sizeLine) = True := by rw [sizeLine_eq]; simp
theorem sz_13 : (13 ≤ sizeLine) = True := by rw [sizeLine_eq]; simp
theorem sz_14 : (14 ≤ sizeLine) = True := by rw [sizeLine_eq]; simp
theorem sz_15 : (15 ≤ sizeLine) = True := by rw [sizeLine_eq]; simp
theorem sz_16 : (16 ≤ sizeLine) = True := by rw [sizeLine_eq]; simp
/-- list(xs), owned -/
def aListO : ARC := fun ds M Φ => ∃ d xs, ds = [d] ∧ Now M d (.lst xs) ∧ ∀ p, p ∉ dom M → Φ (.op (.ref p)) ((p, MO.lst xs) :: M)
theorem c_listO {X : Cx} : CallR X (.type "list") (cOf X.K aListO) := CallR.weak call_list_of fun vs H Q ⟨ds, M, P, Φ, r, s, ⟨d, xs, e, n, h⟩, q⟩ => by
  subst e
  obtain ⟨v, rfl, r1⟩ := r.one'
  obtain ⟨b, vs, rfl, hb, hr⟩ := n.sqL s r1
  exact ⟨b, vs, rfl, .inl (SqL.of hb), fun l hl => q _ _ (h l (nodom s hl)) _ _ _ (Grow.owned s hl ⟨vs, upd_same, hr⟩) (.op _)⟩
/-- == of truth values -/
def aEqB : AR2 := fun x y M Φ => ∃ a b, x = .bl a ∧ y = .bl b ∧ Φ (.bl (decide (a = b))) M
theorem o_eqB {X : Cx} : OpR X (compareOp .Eq) (rOf X.K aEqB) := OpR.weak op_eq fun x y H Q ⟨dx, dy, M, P, Φ, r1, r2, s, ⟨a, b, e1, e2, h⟩, q⟩ => by
  subst e1 e2
  cases r1; cases r2
  have z := q.here s h (.bl _)
  exact ⟨by first | rfl | trivial, by
    have e : decide (V.bl a = V.bl b) = decide (a = b) := by congr 1; simp
    rw [e]
    exact z⟩
end NF
namespace NF
open PySem L2

def wMeth (C : Addr) (m : Str) (f : ASp) (wo : WE) (wa : WA) : WE := fun Γ M Φ => wo Γ M fun d M1 => (∃ a fs, d = .op (.ref a) ∧ (a, MO.ins C fs) ∈ M1 ∧ fs.lookup m = none) ∧ wa Γ M1 fun ds M2 => f (d :: ds) M2 Φ
def xMeth (C : Addr) (m : Str) (f : ASpX) (wo : WEX) (wa : WA) : WEX := fun Γ M Φ Ξ => wo Γ M (fun d M1 => (∃ a fs, d = .op (.ref a) ∧ (a, MO.ins C fs) ∈ M1 ∧ fs.lookup m = none) ∧ wa Γ M1 fun ds M2 => f (d :: ds) M2 Φ Ξ) Ξ
theorem meth_of {K : PySem.W.Frag} {C : Addr} {m : Str} {sp : ASp} {wo : WE} {wa : WA} {E : XK} (σ : St) (H : Hp) (Q : VK) : tOf K (wMeth C m sp wo wa) σ H Q → tMeth C m (spOf K sp) [] E (tOf K wo) (taOf K wa) σ H Q := fun ⟨Γ, M, P, Φ, s, sa, h, q⟩ =>
  ⟨Γ, M, P, _, s, sa, h, fun d M1 ⟨⟨a, fs, e, hm, hl⟩, h1⟩ v P1 H1 g r => by
    subst e
    cases r
    obtain ⟨_, dx, vs, ha, hf⟩ := g.sat.ob a (MO.ins C fs) hm
    exact ⟨a, dx, vs, rfl, ha, hf.no hl, Γ, M1, P1, _, s.up g.le, g.sat, h1, fun ds M2 h2 ws P2 H2 g2 r2 => ⟨.op (.ref a) :: ds, M2, P2, Φ, .cons (.op _) (by rw [List.append_nil]; exact r2), g2.sat, h2, q.mk (g.trans g2)⟩⟩⟩
section
variable {X : Cx} {k : Nat} {C f : Addr} {fd : FuncData} {ps : List Str} {sp : ASp} {spx : ASpX} {m : Str} {o e : Expr} {es : List Expr} {wo : WE} {xo : WEX} {wa : WA} {apos pos : Pos} {W : WX}
theorem d_meth {pl : Sem Bool} (ho : PD X o wo) (c : Cls X.K C) (hm : Meth X.K C m f) (F : FnOk X.prog X.w X.K X.mg X.base CX0 k f fd ps (spOf X.K sp)) (hr : Room k X.A) (hb : Binds X.K fd ps []) (ha : PDA X (e :: es) wa)
    (hst : starEach (e :: es) X.env = (false, eval e X.env) :: starEach es X.env := by rfl) (hpl : (backTo pos (starEach es X.env)).any (·.1) = false := by rfl)
    (ht : eval (.Call (.Attribute o m apos) (e :: es) [] pos) X.env = (do
      let ov ← eval o X.env
      standAt apos.atName
      let (f, first) ← holding [ov] (getMethod ov m pl)
      callWith pos f first (backTo pos (starEach (e :: es) X.env)) (backToKw pos (keywordEach [] X.env))) := by rfl) :
    PD X (.Call (.Attribute o m apos) (e :: es) [] pos) (wMeth C m sp wo wa) := PE.weak (pe_meth (pl := pl) ho c hm F hr hb .nil pass0 ha hst hpl ht) meth_of
theorem d_meth0 {pl : Sem Bool} (ho : PD X o wo) (c : Cls X.K C) (hm : Meth X.K C m f) (F : FnOk X.prog X.w X.K X.mg X.base CX0 k f fd ps (spOf X.K sp)) (hr : Room k X.A) (hb : Binds X.K fd ps [])
    (ht : eval (.Call (.Attribute o m apos) [] [] pos) X.env = (do
      let ov ← eval o X.env
      standAt apos.atName
      let (f, first) ← holding [ov] (getMethod ov m pl)
      callWith pos f first (backTo pos (starEach [] X.env)) (backToKw pos (keywordEach [] X.env))) := by rfl) :
    PD X (.Call (.Attribute o m apos) [] [] pos) (wMeth C m sp wo wNil) := PE.weak (pe_meth0 (pl := pl) ho c hm F hr hb .nil pass0 ht) fun σ H Q h => by
  obtain ⟨Γ, M, P, Φ, s, sa, h, q⟩ := h
  refine ⟨Γ, M, P, _, s, sa, h, fun d M1 ⟨⟨a, fs, e, hm, hl⟩, h1⟩ v P1 H1 g r => ?_⟩
  subst e
  cases r
  obtain ⟨_, dx, vs, ha, hf⟩ := g.sat.ob a (MO.ins C fs) hm
  exact ⟨a, dx, vs, rfl, ha, hf.no hl, ⟨[.op (.ref a)], M1, P1, Φ, .cons (.op _) .nil, g.sat, h1, q.mk g⟩⟩
/-- the same where the method may raise -/
theorem x_meth {pl : Sem Bool} (tk : Takes X W) (ho : PDX X W o xo) (c : Cls X.K C) (hm : Meth X.K C m f) (F : FnOk X.prog X.w X.K X.mg X.base (L2.CX X.prog X.w) k f fd ps (spOfX X.K spx)) (hr : Room k X.A) (hb : Binds X.K fd ps []) (ha : PDA X (e :: es) wa)
    (hst : starEach (e :: es) X.env = (false, eval e X.env) :: starEach es X.env := by rfl) (hpl : (backTo pos (starEach es X.env)).any (·.1) = false := by rfl)
    (ht : eval (.Call (.Attribute o m apos) (e :: es) [] pos) X.env = (do
      let ov ← eval o X.env
      standAt apos.atName
      let (f, first) ← holding [ov] (getMethod ov m pl)
      callWith pos f first (backTo pos (starEach (e :: es) X.env)) (backToKw pos (keywordEach [] X.env))) := by rfl) :
    PDX X W (.Call (.Attribute o m apos) (e :: es) [] pos) (xMeth C m spx xo wa) := by
  refine ⟨fun pins s σ H Q I ⟨Γ, M, P, Φ, Ξ, sl, sa, h, q, qx⟩ => ?_⟩
  refine PySem.W.methodCall_KW (pl := pl) (thn (ho.run pins s σ H (fun v H1 => ∃ (d : D) (M1 : Mp) (P1 : Hp), ((∃ a fs, d = .op (.ref a) ∧ (a, MO.ins C fs) ∈ M1 ∧ fs.lookup m = none) ∧ wa Γ M1 fun ds M2 => spx (d :: ds) M2 Φ Ξ) ∧ Grow X.K P M H P1 M1 H1 ∧ Rep X.K P1 v d) I
    ⟨Γ, M, P, _, Ξ, sl, sa, h, fun d M1 h1 v P1 H1 g r => ⟨d, M1, P1, h1, g, r⟩, qx⟩) fun u s1 ⟨x, H1, I1, rx, d, M1, P1, ⟨⟨a, fs, ed, mem, hl⟩, h1⟩, g, r⟩ => ?_) ht
  subst ed
  cases r
  obtain rfl : u = Value.ref a := rx
  obtain ⟨_, dx, vs, hA, hf⟩ := g.sat.ob a (MO.ins C fs) mem
  refine getmeth_ok I1 hA c hm (hf.no hl) ?_
  refine PySem.W.callWith_K (first := [.ref a]) (h₀ := X.base) I.ok.mod.kin hm.kp (thn (ha.run pos pins s1 σ H1 (fun ws H2 => ∃ ds M2 P2, spx (.op (.ref a) :: ds) M2 Φ Ξ ∧ Grow X.K P1 M1 H1 P2 M2 H2 ∧ RepAll X.K P2 ws ds) I1
    ⟨Γ, M1, P1, _, sl.up g.le, g.sat, h1, fun ds M2 h2 ws P2 H2 g2 r2 => ⟨ds, M2, P2, h2, g2, r2⟩⟩) fun us s2 ⟨ws, H2, I2, rv, ds, M2, P2, h2, g2, r2⟩ => ⟨I2.kIn, ?_⟩) hst hpl
  have g3 := g.trans g2
  exact run_fnS (us := .ref a :: us) (vs := .ref a :: ws) (E := L2.WE W) F hr hb (passAt tk σ) I2 (.cons rfl rv) ⟨.op (.ref a) :: ds, M2, P2, Φ, Ξ, .cons (.op _) r2, g2.sat, h2, q.mk g3, qx.mk g3⟩
theorem x_meth0 {pl : Sem Bool} (tk : Takes X W) (ho : PDX X W o xo) (c : Cls X.K C) (hm : Meth X.K C m f) (F : FnOk X.prog X.w X.K X.mg X.base (L2.CX X.prog X.w) k f fd ps (spOfX X.K spx)) (hr : Room k X.A) (hb : Binds X.K fd ps [])
    (ht : eval (.Call (.Attribute o m apos) [] [] pos) X.env = (do
      let ov ← eval o X.env
      standAt apos.atName
      let (f, first) ← holding [ov] (getMethod ov m pl)
      callWith pos f first (backTo pos (starEach [] X.env)) (backToKw pos (keywordEach [] X.env))) := by rfl) :
    PDX X W (.Call (.Attribute o m apos) [] [] pos) (xMeth C m spx xo wNil) := by
  refine ⟨fun pins s σ H Q I ⟨Γ, M, P, Φ, Ξ, sl, sa, h, q, qx⟩ => ?_⟩
  refine PySem.W.methodCall_KW (pl := pl) (thn (ho.run pins s σ H (fun v H1 => ∃ (d : D) (M1 : Mp) (P1 : Hp), ((∃ a fs, d = .op (.ref a) ∧ (a, MO.ins C fs) ∈ M1 ∧ fs.lookup m = none) ∧ spx [d] M1 Φ Ξ) ∧ Grow X.K P M H P1 M1 H1 ∧ Rep X.K P1 v d) I
    ⟨Γ, M, P, _, Ξ, sl, sa, h, fun d M1 h1 v P1 H1 g r => ⟨d, M1, P1, h1, g, r⟩, qx⟩) fun u s1 ⟨x, H1, I1, rx, d, M1, P1, ⟨⟨a, fs, ed, mem, hl⟩, h1⟩, g, r⟩ => ?_) ht
  subst ed
  cases r
  obtain rfl : u = Value.ref a := rx
  obtain ⟨_, dx, vs, hA, hf⟩ := g.sat.ob a (MO.ins C fs) mem
  refine getmeth_ok I1 hA c hm (hf.no hl) ?_
  exact PySem.W.callWith_K0 (first := [.ref a]) I1.kIn hm.kp (run_fnS (us := [.ref a]) (vs := [.ref a]) (E := L2.WE W) F hr hb (passAt tk σ) I1 (.cons rfl .nil) ⟨[.op (.ref a)], M1, P1, Φ, Ξ, .cons (.op _) .nil, g.sat, h1, q.mk g, qx.mk g⟩)
end
def xMake (C : Addr) (f : ASpX) (w : WA) : WEX := fun Γ M Φ Ξ => w Γ M fun ds M1 => ∀ x, x ∉ dom M1 → f (.op (.ref x) :: ds) ((x, MO.ins C []) :: M1) (fun d M2 => d = .non ∧ Φ (.op (.ref x)) M2) Ξ
section
variable {X : Cx} {k : Nat} {C f : Addr} {fd : FuncData} {ps : List Str} {spx : ASpX} {x : Str} {e : Expr} {es : List Expr} {wa : WA} {p pos : Pos} {W : WX}
theorem x_make (tk : Takes X W) (Mk_ : Mk X.K C f) (F : FnOk X.prog X.w X.K X.mg X.base (L2.CX X.prog X.w) k f fd ps (spOfX X.K spx)) (hr : Room (k + 1) X.A) (hm : X.mg x = some (.ref C)) (hb : Binds X.K fd ps []) (ha : PDA X (e :: es) wa) (hg : Gl X x := by rfl)
    (hdb : (x == ("__debug__" : Str)) = false := by decide) (he : starEach (e :: es) X.env = (false, eval e X.env) :: starEach es X.env := by rfl) (hpl : (backTo pos (starEach es X.env)).any (·.1) = false := by rfl) : PDX X W (.Call (.Name x p) (e :: es) [] pos) (xMake C spx wa) := by
  refine ⟨fun pins s σ H Q I ⟨Γ, M, P, Φ, Ξ, sl, sa, h, q, qx⟩ => ?_⟩
  refine wpAny_Call_Name_kw (ld_glob I hg hm ?_ hdb)
  refine PySem.W.callWith_K (h₀ := X.base) I.ok.mod.kin Mk_.kp (thn (ha.run pos pins s σ H (fun ws H1 => ∃ ds M1 P1, (∀ x, x ∉ dom M1 → spx (.op (.ref x) :: ds) ((x, MO.ins C []) :: M1) (fun d M2 => d = .non ∧ Φ (.op (.ref x)) M2) Ξ) ∧ Grow X.K P M H P1 M1 H1 ∧ RepAll X.K P1 ws ds) I
    ⟨Γ, M, P, _, sl, sa, h, fun ds M1 h1 ws P1 H1 g r => ⟨ds, M1, P1, h1, g, r⟩⟩) fun us s1 ⟨ws, H1, I1, rv, ds, M1, P1, h1, g, r⟩ => ⟨I1.kIn, ?_⟩) he hpl
  have fy : H1 (s1.heap.objs.size + 1) = none := I1.hok.fresh (Nat.le_succ _)
  have fdx : H1 s1.heap.objs.size = none := I1.hok.fresh (Nat.le_refl _)
  have I2 := Inv.made (C := C) I1
  have ne : s1.heap.objs.size ≠ s1.heap.objs.size + 1 := Nat.ne_of_lt (Nat.lt_succ_self _)
  have g1 : Grow X.K P1 M1 H1 P1 M1 (upd H1 s1.heap.objs.size (.own (s1.heap.objs.size + 1))) := Grow.aside g.sat fdx
  have fy' : upd H1 s1.heap.objs.size (.own (s1.heap.objs.size + 1)) (s1.heap.objs.size + 1) = none := by rw [upd_ne (Ne.symm ne)]; exact fy
  have g2 : Grow X.K P1 M1 (upd H1 s1.heap.objs.size (.own (s1.heap.objs.size + 1))) P1 ((s1.heap.objs.size + 1, MO.ins C []) :: M1) (upd (upd H1 s1.heap.objs.size (.own (s1.heap.objs.size + 1))) (s1.heap.objs.size + 1) (.ins C s1.heap.objs.size [])) := Grow.owned g1.sat fy' ⟨s1.heap.objs.size, [], upd_same, .nil⟩
  have g3 := (g.trans g1).trans g2
  have hq : spOfX X.K spx (V.ref (s1.heap.objs.size + 1) :: ws) (upd (upd H1 s1.heap.objs.size (.own (s1.heap.objs.size + 1))) (s1.heap.objs.size + 1) (.ins C s1.heap.objs.size [])) (fun v H2 => v = .non ∧ Q (.ref (s1.heap.objs.size + 1)) H2) (L2.WE W σ) :=
    ⟨.op (.ref _) :: ds, _, P1, _, Ξ, .cons (.op _) r, g2.sat, h1 _ (nodom g.sat fy), fun d M2 ⟨e, h2⟩ v P2 H2 g4 rv2 => by
      subst e
      cases rv2
      exact ⟨rfl, q _ _ h2 _ _ _ (g3.trans g4) (.op _)⟩, qx.mk g3⟩
  have r2 : Vals (V.ref (s1.heap.objs.size + 1) :: ws) (Value.ref (s1.heap.objs.size + 1) :: us) := .cons rfl rv
  have hl : (Value.ref (s1.heap.objs.size + 1) :: us).length = ps.length := by rw [← r2.length]; exact F.len _ _ _ _ hq
  have b := hb _ (Value.ref (s1.heap.objs.size + 1) :: us) I2.kIn (by rw [List.append_nil]; exact hl)
  rw [List.append_nil] at b
  refine wpAny_call (make_map (f := f) I1.kIn Mk_.makes Mk_.init (beq_iff_eq.mp Mk_.fn) (codeAny_mono (F.run _ X.stack _ _ ⟨Value.ref (s1.heap.objs.size + 1) :: us, []⟩ (Value.ref (s1.heap.objs.size + 1) :: us) _ _ (L2.WE W σ) (hr.make C us []) (I2.env0.make C us []) b r2 hq) fun r' s' hq' => ?_))
  cases r' with
  | error e' => exact passAt tk σ pins _ _ e' s' I2 hq'
  | ok fl =>
    cases fl with
    | ret u =>
      obtain ⟨v, H', I3, rv3, ev, q3⟩ := I2.after hq'
      subst ev
      exact ⟨rv3, ⟨V.ref (s1.heap.objs.size + 1), H', I3, rfl, q3⟩⟩
    | next => exact False.elim hq'
    | brk => exact False.elim hq'
    | cont => exact False.elim hq'
end
end NF
namespace NF
open PySem L2 PySem.W PyProof.Rows

def wLcO (wi : WI) (T : Tg) (wc : WT) (we : WE) (own : List Nat) : WE := fun Γ M Φ => wi Γ M fun ds S M1 => ∃ J : Nat → List D → Mp → Prop, J 0 [] M1 ∧ (∀ i acc M', J i acc M' → S M') ∧
  (∀ i d acc M', ds[i]? = some d → J i acc M' → ∃ Γ2, T.put d (gwipe Γ own) = some Γ2 ∧ wc Γ2 M' fun b M2 => (b = true → we Γ2 M2 fun y M3 => acc.length < sizeLine ∧ J (i + 1) (acc ++ [y]) M3) ∧ (b = false → J (i + 1) acc M2)) ∧ ∀ acc M', J ds.length acc M' → ∀ p, p ∉ dom M' → Φ (.op (.ref p)) ((p, MO.lst acc) :: M')
theorem lc_ofO {K : PySem.W.Frag} {wi : WI} {T : Tg} {wc : WT} {we : WE} {own : List Nat} (ho : ∀ j ∈ T.slots, j ∈ own) (σ : L2.St) (H : Hp) (Q : VK) : tOf K (wLcO wi T wc we own) σ H Q → tLc (iOf K wi) (gOf K T) (ttOf K wc) (tOf K we) own σ H Q := fun ⟨Γ, M, P, Φ, s, a, h, q⟩ =>
  ⟨Γ, M, P, _, s, a, h, fun ds S M1 ⟨J, j0, jS, jt, jd⟩ P1 H1 It g1 itd Dl hD => by
    have p1 : P1 Dl = none := g1.sat.sub.free hD
    have m1 : Dl ∉ dom M1 := nodom g1.sat hD
    have lk : ∀ vs kvs, HO.lst vs ≠ HO.dT kvs := fun _ _ z => by cases z
    have lt : ∀ vs xs, HO.lst vs ≠ HO.tup xs := fun _ _ z => by cases z
    refine ⟨fun i m H' => m = ds.length - i ∧ i ≤ ds.length ∧ ∃ acc M' P' vs, J i acc M' ∧ H' Dl = some (.lst vs) ∧ RepAll K P' vs acc ∧ P' Dl = none ∧ Dl ∉ dom M' ∧ Grow K P1 M1 H1 P' M' H', ⟨_, rfl, Nat.zero_le _, [], M1, P1, [], j0, upd_same, .nil, p1, m1, (Grow.refl g1.sat).side hD p1 m1 (fun q z => by rw [hD] at z; cases z)⟩, ?_⟩
    rintro i m H' ⟨rfl, hi, acc, M', P', vs, hj, hl, ra, pd, md, g'⟩
    have hS := jS i acc M' hj
    by_cases hlt : i < ds.length
    · obtain ⟨go, y⟩ := itd.item i ds[i] P' M' H' g'.le g'.sat hS (List.getElem?_eq_getElem hlt)
      refine .inr ⟨go, fun H2 => ∃ acc M' P' vs, J (i + 1) acc M' ∧ H2 Dl = some (.lst vs) ∧ RepAll K P' vs acc ∧ P' Dl = none ∧ Dl ∉ dom M' ∧ Grow K P1 M1 H1 P' M' H2, fun H2 hN => ⟨ds.length - (i + 1), by omega, rfl, hlt, hN⟩, fun x H2 hy => ?_⟩
      obtain ⟨P2, g2, r2⟩ := y x H2 hy
      obtain ⟨Γ2, e2, b2⟩ := jt i _ acc M' (List.getElem?_eq_getElem hlt) hj
      obtain ⟨l2, pd2, md2⟩ := g2.lone hl pd md (lk vs) (lt vs)
      refine ⟨_, gwipe Γ own, P2, M', Γ2, r2, ((s.up g1.le).up (g'.le.trans g2.le)).wipe own, g2.sat, e2, fun σ2 s2 w2 => ⟨?_, Γ2, M', P2, _, s2, g2.sat, b2, fun b M2 ⟨hb1, hb2⟩ P3 H3 g3 => ?_⟩⟩
      · rw [w2 own ho, wipe_wipe]
      · obtain ⟨l3, pd3, md3⟩ := g3.lone l2 pd2 md2 (lk vs) (lt vs)
        cases b with
        | true =>
          rw [if_pos rfl]
          refine ⟨Γ2, M2, P3, _, s2.up g3.le, g3.sat, hb1 rfl, fun y M3 ⟨hz, h3⟩ v P4 H4 g4 r4 => ?_⟩
          obtain ⟨l4, pd4, md4⟩ := g4.lone l3 pd3 md3 (lk vs) (lt vs)
          refine ⟨vs, l4, by rw [ra.length]; exact hz, _, _, P4, _, h3, upd_same, (ra.up ((g2.le.trans g3.le).trans g4.le)).append (.one r4), pd4, md4, (((g'.trans g2).trans g3).trans g4).side hD pd4 md4 (fun q z => by rw [l4] at z; unfold LamX.CodeO at z; cases z)⟩
        | false =>
          rw [if_neg Bool.false_ne_true]
          exact ⟨acc, M2, P3, vs, hb2 rfl, l3, ra.up (g2.le.trans g3.le), pd3, md3, (g'.trans g2).trans g3⟩
    · have e : i = ds.length := by omega
      subst e
      refine .inl ⟨itd.stop P' M' H' g'.le g'.sat hS, q _ _ (jd acc M' hj Dl md) _ P' H' (g1.trans ⟨g'.le, ⟨g'.sat.sub, List.nodup_cons.mpr ⟨md, g'.sat.nd⟩, fun b mo hmo => ?_⟩, g'.keep, g'.newP, fun b hb => ?_⟩) (.op _)⟩
      · rcases List.mem_cons.mp hmo with z | z
        · cases z
          exact ⟨pd, vs, hl, ra⟩
        · exact g'.sat.ob b mo z
      · rcases List.mem_cons.mp hb with z | z
        · rw [z]; exact .inr hD
        · exact g'.newM b z⟩
section
variable {X : Cx}
theorem d_lcO {elt tg iter : Expr} {ifs : List Expr} {scope : Scope} (own : List (Str × Nat)) {pos : Pos} {wi : WI} {T : Tg} {wc : WT} {we : WE} (hc : X.calm = true) (hN : X.N.Nodup) (hi : PID X tg iter wi) (ok : BlkOk X.N X.env.scope scope own)
    (hg : ∀ (s : Shared) (H : Hp) (C : Addr) (cl : List (Str × Addr)) (fp : List Addr), PG (X.blk s H scope (compEnvC scope cl C X.env) fp) tg (gOf X.K T)) (ht : ∀ (s : Shared) (H : Hp) (C : Addr) (cl : List (Str × Addr)) (fp : List Addr), PTs (X.blk s H scope (compEnvC scope cl C X.env) fp) ifs (ttOf X.K wc))
    (he : ∀ (s : Shared) (H : Hp) (C : Addr) (cl : List (Str × Addr)) (fp : List Addr), PE (X.blk s H scope (compEnvC scope cl C X.env) fp) elt (tOf X.K we)) (ho : ∀ j ∈ T.slots, j ∈ own.map (·.2) := by decide) (hs : ∀ x, foldedSetIterable iter X.env x = pure x := by intro _; rfl) :
    PD X (.ListComp elt [⟨tg, iter, ifs, 0⟩] scope pos) (wLcO wi T wc we (own.map (·.2))) := PE.weak (pe_lc hc hN hi ok hg ht he hs) (lc_ofO ho)
end
theorem lc_allO {α : Type} {wi : WI} {T : Tg} {we : WE} {own : List Nat} {Γ : Ctx} {M : Mp} {Φ : KD} (xs : List α) (enc : α → D) (g : α → D) (hl : xs.length ≤ sizeLine)
    (hi : ∀ Ψ : List D → (Mp → Prop) → Mp → Prop, (∀ S : Mp → Prop, S M → Ψ (xs.map enc) S M) → wi Γ M Ψ)
    (step : ∀ x, x ∈ xs → ∃ Γ2, T.put (enc x) (gwipe Γ own) = some Γ2 ∧ ∀ Φ' : KD, Φ' (g x) M → we Γ2 M Φ') (fin : ∀ p, p ∉ dom M → Φ (.op (.ref p)) ((p, MO.lst (xs.map g)) :: M)) : wLcO wi T wYes we own Γ M Φ :=
  hi _ fun S hS => by
    obtain ⟨J, j0, jS, jt, jd⟩ := lcP (S := S) (T := T) (wc := wYes) (we := we) (G := gwipe Γ own) (Φ := fun d M' => d = .lst (xs.map g) ∧ M' = M) xs enc (fun _ => true) g hS hl (fun x hx => let ⟨Γ2, e, h⟩ := step x hx; ⟨Γ2, e, fun Ψ h => h, fun _ => h⟩) ⟨by rw [List.filter_eq_self.mpr fun _ _ => rfl], rfl⟩
    exact ⟨J, j0, jS, jt, fun acc M' h p hp => by
      obtain ⟨e1, e2⟩ := jd acc M' h
      cases e1
      subst e2
      exact fin p hp⟩
def aMax : ARC := fun ds M Φ => ∃ (d : D) (ns : List Int), ds = [d] ∧ Now M d (.lst (ns.map D.int)) ∧ 0 < ns.length ∧ ∀ m, m ∈ ns → (∀ y, y ∈ ns → y ≤ m) → Φ (.int m) M
section
variable {X : Cx}
theorem c_max (hc : X.calm = true) : CallR X (.builtin "max") (cOf X.K aMax) := CallR.weak (cr_max hc) fun vs H Q ⟨ds, M, P, Φ, r, s, ⟨d, ns, e, nw, hl, h⟩, q⟩ => by
  subst e
  obtain ⟨v, rfl, r1⟩ := r.one'
  obtain ⟨b, us, rfl, hb, hw⟩ := nw.sqL s r1
  obtain rfl := RepAll.ints hw
  exact ⟨b, ns, rfl, SqL.of hb, hl, fun m hm hy => q.here s (h m hm hy) (.int _)⟩
theorem RepAll.eraseIdx {K : PySem.W.Frag} {P : Hp} : ∀ {vs : List V} {ds : List D} (i : Nat), RepAll K P vs ds → RepAll K P (vs.eraseIdx i) (ds.eraseIdx i)
  | _, [], i, h => by cases h; simp; exact .nil
  | _, d :: ds, 0, h => by
    cases h with
    | cons h1 h2 => exact h2
  | _, d :: ds, i + 1, h => by
    cases h with
    | cons h1 h2 => exact .cons h1 (RepAll.eraseIdx i h2)
def aPopAt : D → List D → Mp → KD → Prop := fun x ds M Φ => ∃ (a : Addr) (i : Nat) (y : D) (xs : List D) (A B : Mp), x = .op (.ref a) ∧ ds = [.int i] ∧ M = A ++ (a, MO.lst xs) :: B ∧ xs[i]? = some y ∧ i < 1000000 ∧ Φ y (A ++ (a, MO.lst (xs.eraseIdx i)) :: B)
theorem m_popAt : MtR X "list.pop" (mOf X.K aPopAt) := MtR.weak (show MtR X "list.pop" rPopAt from mt_popAt) fun x vs H Q ⟨d, ds, M, P, Φ, r1, r2, s, ⟨a, i, y, xs, A, B, e1, e2, e3, hy, hi, h⟩, q⟩ => by
  subst e1 e2 e3
  cases r1
  obtain ⟨v, rfl, rv⟩ := r2.one'
  cases rv
  obtain ⟨_, us, h1, h2⟩ := s.ob a (MO.lst xs) (by simp)
  obtain ⟨u, hu, ru⟩ := h2.get hy
  have hlt : i < us.length := (List.getElem?_eq_some_iff.mp hu).1
  refine ⟨a, us, i, i, u, rfl, rfl, h1, by omega, by omega, ?_, hu, q _ _ h _ _ _ (Grow.wrote (o' := MO.lst (xs.eraseIdx i)) s ⟨_, upd_same, h2.eraseIdx i⟩) ru⟩
  unfold seqIndex?
  simp
  omega
def wKeysO (we : WE) : WI := fun Γ M Ψ => we Γ M fun d M1 => ∃ a kvs A B, d = .op (.ref a) ∧ M1 = A ++ (a, MO.dic kvs) :: B ∧ ∀ ob vs, Ψ (kvs.map fun p => keyT p.1) (fun M' => (a, MO.dicL ob vs kvs) ∈ M') (A ++ (a, MO.dicL ob vs kvs) :: B)
theorem krep_get {K : PySem.W.Frag} {P : Hp} : ∀ {l1 : List (List Key × V)} {l2 : List (List Key × D)}, KRep K P l1 l2 → ∀ (i : Nat) (p : List Key × V) (q : List Key × D), l1[i]? = some p → l2[i]? = some q → p.1 = q.1
  | _, _, .nil, i, p, q, h1, _ => by simp at h1
  | _, _, .cons r t, 0, p, q, h1, h2 => by simp at h1 h2; subst h1 h2; exact r.1
  | _, _, .cons r t, i + 1, p, q, h1, h2 => krep_get t i p q (by simpa using h1) (by simpa using h2)
theorem keys_itd {K : PySem.W.Frag} {P : Hp} {a : Addr} {ob : Obj} {vs : List (List Key × V)} {kvs : List (List Key × D)} : ItD K P (kvs.map fun p => keyT p.1) (fun M' => (a, MO.dicL ob vs kvs) ∈ M') (Itkt a ob vs) := by
  refine ⟨fun i d P' M' H' le sa hm hd => ?_, fun P' M' H' le sa hm => ?_⟩
  · obtain ⟨_, h1, h2⟩ := sa.ob _ _ hm
    rw [List.getElem?_map] at hd
    obtain ⟨kv, hk, rfl⟩ := Option.map_eq_some_iff.mp hd
    have hl := h2.length
    have hi := (List.getElem?_eq_some_iff.mp hk).1
    refine ⟨⟨h1, by omega⟩, fun x H'' ⟨e, k, v, q, hkv, ex, hq⟩ => ?_⟩
    subst e ex
    have ek : k = kv.1 := krep_get h2 i _ _ hkv hk
    subst ek
    obtain ⟨g, gt⟩ := Grow.tups sa [q] fun b hb => by
      obtain rfl := List.mem_singleton.mp hb
      exact ⟨_, hq⟩
    exact ⟨_, g, .tup (gt q _ (List.mem_singleton.mpr rfl) hq) (rep_keys kv.1)⟩
  · obtain ⟨_, h1, h2⟩ := sa.ob _ _ hm
    exact ⟨h1, by rw [List.length_map, ← h2.length]; exact Nat.le_refl _⟩
theorem di_keysO {tg e : Expr} {we : WE} {apos cpos : Pos} (he : PD X e we) (hbase : attributeBase e "keys" X.env (eval e X.env) = eval e X.env := by rfl) (hline : (apos.endLine == cpos.line) = true := by rfl) : PID X tg (.Call (.Attribute e "keys" apos) [] [] cpos) (wKeysO we) := by
  refine ⟨fun pins s σ H R I ⟨Γ, M, P, Ψ, sl, sa, h, q⟩ => ?_⟩
  refine wpAny_Call_method (T := "dict") (id := "dict.keys") hbase rfl hline F.plainAttrs_dict F.slot_dict_keys F.type_dict_keys (thn (he.run pins s σ H (fun v H1 => ∃ d M1 P1, (∃ a kvs A B, d = D.op (.ref a) ∧ M1 = A ++ (a, MO.dic kvs) :: B ∧ ∀ ob vs, Ψ (kvs.map fun p => keyT p.1) (fun M' => (a, MO.dicL ob vs kvs) ∈ M') (A ++ (a, MO.dicL ob vs kvs) :: B)) ∧ Grow X.K P M H P1 M1 H1 ∧ Rep X.K P1 v d) I
    ⟨Γ, M, P, _, sl, sa, h, fun d M1 h1 v P1 H1 g r => ⟨d, M1, P1, h1, g, r⟩⟩) fun u s1 ⟨x, H1, I1, rx, d, M1, P1, ⟨a, kvs, A, B, ed, em, h1⟩, g, r⟩ => ?_)
  subst ed em
  cases r
  obtain rfl : u = Value.ref a := rx
  obtain ⟨_, vs, ha, hk⟩ := g.sat.ob a (MO.dic kvs) (by simp)
  obtain ⟨ob, I2⟩ := I1.lock ha trivial
  have g2 := Grow.wrote (o' := MO.dicL ob vs kvs) (ho := .frz ob (.dT vs)) g.sat ⟨upd_same, hk⟩
  have hh2 : upd H1 a (.frz ob (.dT vs)) a = some (.frz ob (.dT vs)) := upd_same
  obtain ⟨_, hs, es, ep, raw, hsz, ent⟩ := dt_raw I2 (.inr ⟨ob, hh2⟩)
  obtain ⟨od, hod, hx, hdt⟩ := id raw
  have eo : od = ob := Option.some.inj (hod.symm.trans (I2.hok a _ hh2).1)
  subst eo
  refine ⟨raw.typeIs, fun c e => ?_, ?_⟩
  · cases e
    exact ⟨od, hod, hx.2.1⟩
  have I3 : L2.Inv X pins σ (upd H1 a (.frz od (.dT vs))) { s1 with heap := s1.heap.push { cls := .type "dict_keys", data := .fields #[.ref a] } } := I2.kept (t' := s1.toks) fun b ob q => Heap.get?_push_of_some _ q
  have fin : wpAny (model X.prog X.w) X.A (pyIter (.ref s1.heap.objs.size)) (PIE X pins σ tg R) X.xe { s1 with heap := s1.heap.push { cls := .type "dict_keys", data := .fields #[.ref a] } } := by
    refine wpAny_pyIter_keys_raw (d := a) (es := es) (ep := ep) ⟨_, Heap.get?_push_size _ rfl, rfl, rfl⟩ (raw.at fun o e => Heap.get?_push_of_some _ e) (pi_one (tk := s1.toks) I3 _ (turn_keysT (d := a) (kvs := vs) _ hdt) ⟨_, Heap.get?_push_size _ rfl, rfl, ?_⟩ ?_)
    · rw [hsz] <;> rfl
    · exact q _ _ _ (h1 od vs) P1 _ _ (g.trans g2) keys_itd
  show wpAny _ _ (callWith cpos (.builtin "dict.keys") [.ref a] [] []) _ X.xe s1
  exact method_meetsIn F.slot_dict_keys F.entry_dict_keys rfl (PySem.evalArgs_none ⟨rfl, raw.typeIs, F.args_dict_keys_1 _, _, meets_dict_keys_raw a hs, ⟨⟨es, ep, raw⟩, fin⟩⟩)
end
end NF
namespace NF
open PySem L2 PySem.W PySem.Calls PyProof.Rows PySem.SeqAt

def aSortedO : ARC := fun ds M Φ => ∃ d xs, ds = [d] ∧ Now M d (.lst xs) ∧ SortOk xs ∧ ∀ p, p ∉ dom M → Φ (.op (.ref p)) ((p, MO.lst (xs.mergeSort dle)) :: M)
section
variable {X : Cx}
theorem c_sortedO {k : Nat} (hr : Room k X.A) : CallR X (.builtin "sorted") (cOf X.K aSortedO) := by
  intro pins s σ H vs us Q I r ⟨ds, M, P, Φ, ra, sa, ⟨d, xs, e, n, so, h⟩, q⟩
  subst e
  obtain ⟨v, rfl, r1⟩ := ra.one'
  obtain ⟨b, ws, rfl, hb, hw⟩ := n.sqL sa r1
  rw [Vals.ref1 r]
  obtain ⟨its, rv, pl, hz⟩ := I.list (SqL.of hb)
  have hlen := hw.length
  have ee := each_of_vals rv hw
  have rd : EachIs (fun v b => ∃ as, Reads s.heap v (D.py b) as) its xs := (each_mem ee).mono fun u d ⟨⟨x, rx, rd⟩, hd⟩ =>
    Dp.reads I _ x u (dp_up sa.sub _ _ (D.rep_py d x (so.plain d hd).1 rd)) rx
  have hdep : ∀ d, d ∈ xs → X.A.units + 2 + (D.py d).depth < cLine := fun d hd => by
    have h1 := (so.plain d hd).2
    have h2 := D.depth_py d
    have h3 := hr.un
    omega
  refine sorted_to (enc := D.py) (R := fun u d => ∃ x, RelV x u ∧ Rep X.K P x d) (bs := xs) pl.isList ee rd so.to (by omega) hdep fun out ho eo => ?_
  obtain ⟨zs, hv, hz2⟩ := vals_of_each eo
  obtain ⟨ep, he⟩ := sortedAll_at s.heap its (List.toArray out)
  have fr : H (s.heap.objs.size + 1) = none := I.hok.fresh (Nat.le_succ _)
  have hl2 : zs.length ≤ sizeLine := by
    have := hz2.length
    rw [List.length_mergeSort] at this
    omega
  have g := Grow.owned (o := .lst zs) (mo := MO.lst (xs.mergeSort dle)) sa fr ⟨zs, upd_same, hz2⟩
  exact ⟨.ref _, upd H (s.heap.objs.size + 1) (.lst zs), I.laid (t' := s.toks) (fun _ _ => sortedAll_old) (Nat.le_succ _) ⟨hl2, out, ep, hv, he⟩, rfl, q _ _ (h _ (nodom sa fr)) _ _ _ g (.op _)⟩
end

abbrev Sh := Str × Rc
def tri3 (p : Sh) : D := .tup [.str p.1, .str p.2.name, .int p.2.worth]
def lookS (l : List Sh) (k : Ky) : Option Sh := l.find? fun p => decide (p.2.key = k)
def evN (k : Ky) (w n : Str) : D := .tup [Ky.d k, .str w, .str n]
def evW (k : Ky) (z : Int) : D := .tup [Ky.d k, .str "worth", .int z]
def ownB (p : Sh) : Bool := decide (p.1 = p.2.name)
def wordOf (p q : Sh) : Str := if (ownB p && !ownB q) = true then "fell" else if (ownB q && !ownB p) = true then "rose" else "moved"
def evk (b n : List Sh) (k : Ky) : List D := match lookS b k, lookS n k with
  | none, none => []
  | none, some q => [evN k "came" q.1]
  | some p, none => [evN k "went" p.1]
  | some p, some q => (if p.1 = q.1 then [] else [evN k (wordOf p q) q.1]) ++ (if p.2.worth = q.2.worth then [] else [evW k q.2.worth])
def shK (l : List Sh) : List Ky := l.map fun p => p.2.key
noncomputable def unionK (b n : List Sh) : List Ky := (shK b ++ (shK n).filter fun k => !(lookS b k).isSome).mergeSort kle
noncomputable def evOf (b n : List Sh) : List D := (unionK b n).flatMap (evk b n)
theorem look_kvS (l : List Sh) (k : Ky) : lookA (kvOf (fun p : Sh => p.2.key) tri3 l) (kk k) = (lookS l k).map tri3 := by
  induction l with
  | nil => rfl
  | cons p l ih =>
    unfold lookA kvOf lookS at *
    simp only [List.map_cons, List.find?_cons]
    by_cases e : p.2.key = k
    · simp [e]
    · have : decide (kk p.2.key = kk k) = false := by simp [kk_inj, e]
      simp only [this, decide_eq_false e]
      exact ih
theorem lookS_some {l : List Sh} {k : Ky} : (lookS l k).isSome = true ↔ k ∈ shK l := by
  unfold lookS shK
  rw [List.find?_isSome, List.mem_map]
  simp
theorem lookS_mem {l : List Sh} {k : Ky} {p : Sh} (h : lookS l k = some p) : p ∈ l ∧ p.2.key = k := by
  refine ⟨List.mem_of_find?_eq_some h, ?_⟩
  have := List.find?_some h
  simpa using this
theorem unionK_nodup {b n : List Sh} (hb : (shK b).Nodup) (hn : (shK n).Nodup) : (shK b ++ (shK n).filter fun k => !(lookS b k).isSome).Nodup := by
  rw [List.nodup_append]
  refine ⟨hb, hn.filter _, fun a ha c hc e => ?_⟩
  subst e
  have := (List.mem_filter.mp hc).2
  rw [lookS_some.mpr ha] at this
  cases this
theorem mem_unionK {b n : List Sh} {k : Ky} : k ∈ shK b ++ (shK n).filter (fun k => !(lookS b k).isSome) ↔ k ∈ shK b ∨ k ∈ shK n := by
  rw [List.mem_append, List.mem_filter]
  constructor
  · rintro (h | h)
    · exact .inl h
    · exact .inr h.1
  · intro h
    by_cases c : k ∈ shK b
    · exact .inl c
    · rcases h with h | h
      · exact .inl h
      · refine .inr ⟨h, ?_⟩
        cases e : (lookS b k).isSome with
        | false => rfl
        | true => exact absurd (lookS_some.mp e) c
theorem sortK {l m : List Ky} (h1 : l.Nodup) (h2 : m.Nodup) (h : ∀ k, k ∈ l ↔ k ∈ m) : l.mergeSort kle = m.mergeSort kle :=
  sort_eq (fun a b c => kle_trans a b c) (fun a b => kle_total a b) (perm_of_mem h1 h2 h) fun a b _ _ x y => kle_anti x y
theorem sortKd (l : List Ky) : (l.map Ky.d).mergeSort dle = (l.mergeSort kle).map Ky.d := (List.map_mergeSort fun a _ b _ => (dle_ky a b).symm).symm
/-- keys of a set, sorted -/
theorem srtK_of {L : List D} {ks m : List Ky} (nd : L.Nodup) (h : ∀ d, d ∈ L ↔ d ∈ ks.map Ky.d) (mn : m.Nodup) (hm : ∀ k, k ∈ m ↔ k ∈ ks) : L.mergeSort dle = (m.mergeSort kle).map Ky.d := by
  have ky_inj : ∀ {a b : Ky}, Ky.d a = Ky.d b → a = b := fun e => by simpa [Prod.ext_iff] using e
  have ex : ∀ l : List D, (∀ d, d ∈ l → d ∈ ks.map Ky.d) → ∃ l0 : List Ky, l = l0.map Ky.d := by
    intro l
    induction l with
    | nil => exact fun _ => ⟨[], rfl⟩
    | cons d l ih =>
      intro h
      obtain ⟨l0, rfl⟩ := ih fun x hx => h x (List.mem_cons_of_mem _ hx)
      obtain ⟨y, _, rfl⟩ := List.mem_map.mp (h d (List.mem_cons_self ..))
      exact ⟨y :: l0, rfl⟩
  obtain ⟨l0, rfl⟩ := ex L fun d hd => (h d).mp hd
  have mem : ∀ (l : List Ky) (k : Ky), Ky.d k ∈ l.map Ky.d ↔ k ∈ l := fun l k => ⟨fun z => by
    obtain ⟨y, hy, e⟩ := List.mem_map.mp z
    rw [← ky_inj e]; exact hy, fun z => List.mem_map.mpr ⟨k, z, rfl⟩⟩
  have n0 : l0.Nodup := (List.pairwise_map.mp nd).imp fun ne e => ne (by rw [e])
  rw [sortKd, sortK n0 mn fun k => ?_]
  rw [← mem l0 k, h, mem ks k, hm]
theorem sorts_keys (ks : List Ky) : SortsTo ((ks.map Ky.d).map D.py) := .inl (sortOk_key ks).to
theorem setAll_keys (ks : List Ky) : SetAll (ks.map Ky.d) := .inl fun d hd => by
  obtain ⟨x, _, rfl⟩ := List.mem_map.mp hd
  exact setkey_key x
theorem there_keys {ds : List Dd} (g : Good ds) : (shK (shown (there ds))).Nodup := by
  have e : shK (shown (there ds)) = (there ds).map Rc.key := by
    unfold shK
    conv => rhs; rw [← shown_rows (there ds)]
    rw [List.map_map]
    rfl
  rw [e]
  have h1 : ((rows ds).map Rc.key).Nodup := rows_keys g (ordd ds)
  have h2 : (((rows ds).filter fun r => !r.gone).map Rc.key).Nodup := (List.Sublist.map _ List.filter_sublist).nodup h1
  exact ((List.mergeSort_perm _ _).map Rc.key).nodup_iff.mpr h2
theorem evOk {b n : List Sh} (hb : ∀ p, p ∈ b → PyData.strOk p.1 = true) (hn : ∀ p, p ∈ n → PyData.strOk p.1 = true) : ∀ d, d ∈ evOf b n → D.plain d = true ∧ D.deep d ≤ 60 := fun d hd => by
  have ws : PyData.strOk (Str.ofString "came") = true ∧ PyData.strOk (Str.ofString "went") = true ∧ PyData.strOk (Str.ofString "fell") = true ∧ PyData.strOk (Str.ofString "rose") = true ∧ PyData.strOk (Str.ofString "moved") = true ∧ PyData.strOk (Str.ofString "worth") = true := by decide +kernel
  obtain ⟨k, _, hk⟩ := List.mem_flatMap.mp hd
  have wo : ∀ p q : Sh, PyData.strOk (wordOf p q) = true := fun p q => by
    unfold wordOf
    split
    · exact ws.2.2.1
    · split
      · exact ws.2.2.2.1
      · exact ws.2.2.2.2.1
  have en : ∀ {w n : Str}, PyData.strOk w = true → PyData.strOk n = true → D.plain (evN k w n) = true ∧ D.deep (evN k w n) ≤ 60 := fun h1 h2 => by simp [evN, D.plain, D.plainAll, D.deep, D.deepAll, h1, h2]
  unfold evk at hk
  split at hk
  · cases hk
  · rename_i q _ hq
    rw [List.mem_singleton.mp hk]
    exact en ws.1 (hn q (lookS_mem hq).1)
  · rename_i p hp _
    rw [List.mem_singleton.mp hk]
    exact en ws.2.1 (hb p (lookS_mem hp).1)
  · rename_i p q hp hq
    rcases List.mem_append.mp hk with z | z
    · split at z
      · cases z
      · rw [List.mem_singleton.mp z]
        exact en (wo p q) (hn q (lookS_mem hq).1)
    · split at z
      · cases z
      · rw [List.mem_singleton.mp z]
        simp [evW, D.plain, D.plainAll, D.deep, D.deepAll, ws.2.2.2.2.2]
theorem evk_len (b n : List Sh) (k : Ky) : (evk b n k).length ≤ 2 := by
  unfold evk
  split
  · simp
  · simp
  · simp
  · rename_i p q hp hq
    rw [List.length_append]
    have h1 : (if p.1 = q.1 then ([] : List D) else [evN k (wordOf p q) q.1]).length ≤ 1 := by split <;> simp
    have h2 : (if p.2.worth = q.2.worth then ([] : List D) else [evW k q.2.worth]).length ≤ 1 := by split <;> simp
    omega
end NF
namespace NF
open PySem L2 PySem.W PySem.Calls PyProof.Rows PySem.SeqAt
def wPar (i j : Nat) (wa : WA) : WS := fun R Γ M => wa Γ M fun ds M1 => ∃ d e, ds = [d, e] ∧ R.nx ((Γ.set i (some d)).set j (some e)) M1
section
variable {X : Cx} {pos : Pos}
theorem ds_par (i j : Nat) {x y : Str} {a b : Expr} {wa : WA} {px py pt : Pos} {kt k2 pt2} (hc : X.calm = true) (hN : X.N.Nodup) (hij : i ≠ j) (ha : PDA X [a, b] wa)
    (hi : X.N[i]? = some x := by rfl) (hj : X.N[j]? = some y := by rfl) (hx : X.env.scope.names.lookup x = some .local := by rfl) (hy : X.env.scope.names.lookup y = some .local := by rfl)
    (hw : swappedStores [.Tuple [.Name x px, .Name y py] kt pt] (.Tuple [a, b] k2 pt2) X.env = pure (some [x, y]) := by rfl)
    (hs : swapsWithSole [.Tuple [.Name x px, .Name y py] kt pt] (.Tuple [a, b] k2 pt2) pos.line X.env = pure false := by rfl) :
    PDS X (.Assign [.Tuple [.Name x px, .Name y py] kt pt] (.Tuple [a, b] k2 pt2) pos) (wPar i j wa) := PS.weak (ps_par hc hN hi hj hij hx hy ha hw hs) fun E σ H ⟨Γ, M, P, R, s, sa, h, q⟩ =>
  ⟨Γ, M, P, _, s, sa, h, fun ds M1 ⟨d, e, hd, h1⟩ vs P1 H1 g r => by
    subst hd
    cases r with
    | cons r1 r2 =>
      cases r2 with
      | cons r2 r3 =>
        cases r3
        exact ⟨_, _, rfl, q.nx _ _ h1 _ _ _ g (((s.up g.le).set r1 i).set r2 j)⟩⟩
end
theorem lc_keysO {α : Type} {T : Tg} {wc : WT} {we : WE} {own : List Nat} {Γ : Ctx} {M : Mp} {Φ : KD} {j : Nat} {a : Addr} {kvs : List (List Key × D)} (A B : Mp) (xs : List α) (enc : α → D) (p : α → Bool) (g : α → D)
    (hj : Γ[j]? = some (some (.op (.ref a)))) (hM : M = A ++ (a, MO.dic kvs) :: B) (hx : kvs.map (fun p => keyT p.1) = xs.map enc) (hl : xs.length ≤ sizeLine)
    (step : ∀ ob vs x, x ∈ xs → ∃ Γ2, T.put (enc x) (gwipe Γ own) = some Γ2 ∧ (∀ Ψ : Bool → Mp → Prop, Ψ (p x) (A ++ (a, MO.dicL ob vs kvs) :: B) → wc Γ2 (A ++ (a, MO.dicL ob vs kvs) :: B) Ψ) ∧ (p x = true → ∀ Φ' : KD, Φ' (g x) (A ++ (a, MO.dicL ob vs kvs) :: B) → we Γ2 (A ++ (a, MO.dicL ob vs kvs) :: B) Φ'))
    (fin : ∀ ob vs, Φ (.lst ((xs.filter p).map g)) (A ++ (a, MO.dicL ob vs kvs) :: B)) : wLc (wKeysO (wVar j)) T wc we own Γ M Φ := by
  refine show ∃ d, Γ[j]? = some (some d) ∧ _ from ⟨_, hj, a, kvs, A, B, rfl, hM, fun ob vs => ?_⟩
  rw [hx]
  exact lcP xs enc p g (by simp) hl (step ob vs) (fin ob vs)
theorem for_fam {ι α : Type} {wi : WI} {T : Tg} {wb : WS} {R : AE} {Γ : Ctx} {M : Mp} (xs : List α) (enc : α → D) (M1 : ι → Mp) (J : ι → Nat → Ctx → Mp → Prop) (hi : ∀ Ψ : List D → (Mp → Prop) → Mp → Prop, (∀ o, Ψ (xs.map enc) (fun _ => True) (M1 o)) → wi Γ M Ψ)
    (h0 : ∀ o, J o 0 Γ (M1 o)) (step : ∀ o i x Γ' M', xs[i]? = some x → J o i Γ' M' → ∃ Γ2, T.put (enc x) Γ' = some Γ2 ∧ wb { R with nx := J o (i + 1), ct := J o (i + 1), bk := R.nx } Γ2 M') (fin : ∀ o Γ' M', J o xs.length Γ' M' → R.nx Γ' M') :
    wFor wi T wb R Γ M := hi _ fun o => forP xs enc (J o) (h0 o) (fun _ _ _ _ => trivial) (step o) (fin o)
end NF
namespace NF
open PySem L2
def copyF (h : Int) (xs : List Dd) (st : Int) (ow : List D) : List (Str × D) := [("hand", .int h), ("heard", .lst (xs.map Dd.d)), ("stamp", .int st), ("own", .lst ow)]
theorem cq_hand_heard : (("hand" : Str) == "heard") = false := by decide +kernel
theorem cn_hand_heard : ¬ ("hand" : Str) = "heard" := by decide +kernel
theorem cq_hand_stamp : (("hand" : Str) == "stamp") = false := by decide +kernel
theorem cn_hand_stamp : ¬ ("hand" : Str) = "stamp" := by decide +kernel
theorem cq_hand_own : (("hand" : Str) == "own") = false := by decide +kernel
theorem cn_hand_own : ¬ ("hand" : Str) = "own" := by decide +kernel
theorem cq_heard_hand : (("heard" : Str) == "hand") = false := by decide +kernel
theorem cn_heard_hand : ¬ ("heard" : Str) = "hand" := by decide +kernel
theorem cq_heard_stamp : (("heard" : Str) == "stamp") = false := by decide +kernel
theorem cn_heard_stamp : ¬ ("heard" : Str) = "stamp" := by decide +kernel
theorem cq_heard_own : (("heard" : Str) == "own") = false := by decide +kernel
theorem cn_heard_own : ¬ ("heard" : Str) = "own" := by decide +kernel
theorem cq_stamp_hand : (("stamp" : Str) == "hand") = false := by decide +kernel
theorem cn_stamp_hand : ¬ ("stamp" : Str) = "hand" := by decide +kernel
theorem cq_stamp_heard : (("stamp" : Str) == "heard") = false := by decide +kernel
theorem cn_stamp_heard : ¬ ("stamp" : Str) = "heard" := by decide +kernel
theorem cq_stamp_own : (("stamp" : Str) == "own") = false := by decide +kernel
theorem cn_stamp_own : ¬ ("stamp" : Str) = "own" := by decide +kernel
theorem cq_own_hand : (("own" : Str) == "hand") = false := by decide +kernel
theorem cn_own_hand : ¬ ("own" : Str) = "hand" := by decide +kernel
theorem cq_own_heard : (("own" : Str) == "heard") = false := by decide +kernel
theorem cn_own_heard : ¬ ("own" : Str) = "heard" := by decide +kernel
theorem cq_own_stamp : (("own" : Str) == "stamp") = false := by decide +kernel
theorem cn_own_stamp : ¬ ("own" : Str) = "stamp" := by decide +kernel
theorem cf_hand {h : Int} {xs : List Dd} {st : Int} {ow : List D} : (copyF h xs st ow).lookup ("hand" : Str) = some (.int h) := by
  unfold copyF
  simp only [List.lookup,  beq_self_eq_true]
theorem cf_heard {h : Int} {xs : List Dd} {st : Int} {ow : List D} : (copyF h xs st ow).lookup ("heard" : Str) = some (.lst (xs.map Dd.d)) := by
  unfold copyF
  simp only [List.lookup, cq_heard_hand,  beq_self_eq_true]
theorem cf_stamp {h : Int} {xs : List Dd} {st : Int} {ow : List D} : (copyF h xs st ow).lookup ("stamp" : Str) = some (.int st) := by
  unfold copyF
  simp only [List.lookup, cq_stamp_hand, cq_stamp_heard,  beq_self_eq_true]
theorem cf_own {h : Int} {xs : List Dd} {st : Int} {ow : List D} : (copyF h xs st ow).lookup ("own" : Str) = some (.lst ow) := by
  unfold copyF
  simp only [List.lookup, cq_own_hand, cq_own_heard, cq_own_stamp,  beq_self_eq_true]
theorem cm_deeds {h : Int} {xs : List Dd} {st : Int} {ow : List D} : (copyF h xs st ow).lookup ("deeds" : Str) = none := by
  unfold copyF
  simp only [List.lookup, show (("deeds" : Str) == "hand") = false by decide +kernel, show (("deeds" : Str) == "heard") = false by decide +kernel, show (("deeds" : Str) == "stamp") = false by decide +kernel, show (("deeds" : Str) == "own") = false by decide +kernel]
theorem cm_table {h : Int} {xs : List Dd} {st : Int} {ow : List D} : (copyF h xs st ow).lookup ("table" : Str) = none := by
  unfold copyF
  simp only [List.lookup, show (("table" : Str) == "hand") = false by decide +kernel, show (("table" : Str) == "heard") = false by decide +kernel, show (("table" : Str) == "stamp") = false by decide +kernel, show (("table" : Str) == "own") = false by decide +kernel]
theorem cm_take {h : Int} {xs : List Dd} {st : Int} {ow : List D} : (copyF h xs st ow).lookup ("take" : Str) = none := by
  unfold copyF
  simp only [List.lookup, show (("take" : Str) == "hand") = false by decide +kernel, show (("take" : Str) == "heard") = false by decide +kernel, show (("take" : Str) == "stamp") = false by decide +kernel, show (("take" : Str) == "own") = false by decide +kernel]
theorem cm_hear {h : Int} {xs : List Dd} {st : Int} {ow : List D} : (copyF h xs st ow).lookup ("hear" : Str) = none := by
  unfold copyF
  simp only [List.lookup, show (("hear" : Str) == "hand") = false by decide +kernel, show (("hear" : Str) == "heard") = false by decide +kernel, show (("hear" : Str) == "stamp") = false by decide +kernel, show (("hear" : Str) == "own") = false by decide +kernel]
theorem cm_lacking {h : Int} {xs : List Dd} {st : Int} {ow : List D} : (copyF h xs st ow).lookup ("lacking" : Str) = none := by
  unfold copyF
  simp only [List.lookup, show (("lacking" : Str) == "hand") = false by decide +kernel, show (("lacking" : Str) == "heard") = false by decide +kernel, show (("lacking" : Str) == "stamp") = false by decide +kernel, show (("lacking" : Str) == "own") = false by decide +kernel]
theorem cm_meet {h : Int} {xs : List Dd} {st : Int} {ow : List D} : (copyF h xs st ow).lookup ("meet" : Str) = none := by
  unfold copyF
  simp only [List.lookup, show (("meet" : Str) == "hand") = false by decide +kernel, show (("meet" : Str) == "heard") = false by decide +kernel, show (("meet" : Str) == "stamp") = false by decide +kernel, show (("meet" : Str) == "own") = false by decide +kernel]
theorem cm_make {h : Int} {xs : List Dd} {st : Int} {ow : List D} : (copyF h xs st ow).lookup ("make" : Str) = none := by
  unfold copyF
  simp only [List.lookup, show (("make" : Str) == "hand") = false by decide +kernel, show (("make" : Str) == "heard") = false by decide +kernel, show (("make" : Str) == "stamp") = false by decide +kernel, show (("make" : Str) == "own") = false by decide +kernel]
theorem cm_row {h : Int} {xs : List Dd} {st : Int} {ow : List D} : (copyF h xs st ow).lookup ("row" : Str) = none := by
  unfold copyF
  simp only [List.lookup, show (("row" : Str) == "hand") = false by decide +kernel, show (("row" : Str) == "heard") = false by decide +kernel, show (("row" : Str) == "stamp") = false by decide +kernel, show (("row" : Str) == "own") = false by decide +kernel]
theorem cm_look_name {h : Int} {xs : List Dd} {st : Int} {ow : List D} : (copyF h xs st ow).lookup ("look_name" : Str) = none := by
  unfold copyF
  simp only [List.lookup, show (("look_name" : Str) == "hand") = false by decide +kernel, show (("look_name" : Str) == "heard") = false by decide +kernel, show (("look_name" : Str) == "stamp") = false by decide +kernel, show (("look_name" : Str) == "own") = false by decide +kernel]
theorem cm_new {h : Int} {xs : List Dd} {st : Int} {ow : List D} : (copyF h xs st ow).lookup ("new" : Str) = none := by
  unfold copyF
  simp only [List.lookup, show (("new" : Str) == "hand") = false by decide +kernel, show (("new" : Str) == "heard") = false by decide +kernel, show (("new" : Str) == "stamp") = false by decide +kernel, show (("new" : Str) == "own") = false by decide +kernel]
theorem cm_rename {h : Int} {xs : List Dd} {st : Int} {ow : List D} : (copyF h xs st ow).lookup ("rename" : Str) = none := by
  unfold copyF
  simp only [List.lookup, show (("rename" : Str) == "hand") = false by decide +kernel, show (("rename" : Str) == "heard") = false by decide +kernel, show (("rename" : Str) == "stamp") = false by decide +kernel, show (("rename" : Str) == "own") = false by decide +kernel]
theorem cm_set_worth {h : Int} {xs : List Dd} {st : Int} {ow : List D} : (copyF h xs st ow).lookup ("set_worth" : Str) = none := by
  unfold copyF
  simp only [List.lookup, show (("set_worth" : Str) == "hand") = false by decide +kernel, show (("set_worth" : Str) == "heard") = false by decide +kernel, show (("set_worth" : Str) == "stamp") = false by decide +kernel, show (("set_worth" : Str) == "own") = false by decide +kernel]
theorem cm_drop {h : Int} {xs : List Dd} {st : Int} {ow : List D} : (copyF h xs st ow).lookup ("drop" : Str) = none := by
  unfold copyF
  simp only [List.lookup, show (("drop" : Str) == "hand") = false by decide +kernel, show (("drop" : Str) == "heard") = false by decide +kernel, show (("drop" : Str) == "stamp") = false by decide +kernel, show (("drop" : Str) == "own") = false by decide +kernel]
theorem cm_back {h : Int} {xs : List Dd} {st : Int} {ow : List D} : (copyF h xs st ow).lookup ("back" : Str) = none := by
  unfold copyF
  simp only [List.lookup, show (("back" : Str) == "hand") = false by decide +kernel, show (("back" : Str) == "heard") = false by decide +kernel, show (("back" : Str) == "stamp") = false by decide +kernel, show (("back" : Str) == "own") = false by decide +kernel]
theorem cm_find {h : Int} {xs : List Dd} {st : Int} {ow : List D} : (copyF h xs st ow).lookup ("find" : Str) = none := by
  unfold copyF
  simp only [List.lookup, show (("find" : Str) == "hand") = false by decide +kernel, show (("find" : Str) == "heard") = false by decide +kernel, show (("find" : Str) == "stamp") = false by decide +kernel, show (("find" : Str) == "own") = false by decide +kernel]
theorem cm_name_of {h : Int} {xs : List Dd} {st : Int} {ow : List D} : (copyF h xs st ow).lookup ("name_of" : Str) = none := by
  unfold copyF
  simp only [List.lookup, show (("name_of" : Str) == "hand") = false by decide +kernel, show (("name_of" : Str) == "heard") = false by decide +kernel, show (("name_of" : Str) == "stamp") = false by decide +kernel, show (("name_of" : Str) == "own") = false by decide +kernel]
theorem pc_heard {h : Int} {xs : List Dd} {st : Int} {ow : List D} (ys : List Dd) : putD "heard" (.lst (ys.map Dd.d)) (copyF h xs st ow) = copyF h ys st ow := by
  unfold copyF
  simp only [putD, cn_hand_heard, if_false, if_true]
theorem pc_stamp {h : Int} {xs : List Dd} {st : Int} {ow : List D} (z : Int) : putD "stamp" (.int z) (copyF h xs st ow) = copyF h xs z ow := by
  unfold copyF
  simp only [putD, cn_hand_stamp, cn_heard_stamp, if_false, if_true]
theorem pc_own {h : Int} {xs : List Dd} {st : Int} {ow : List D} (l : List D) : putD "own" (.lst l) (copyF h xs st ow) = copyF h xs st l := by
  unfold copyF
  simp only [putD, cn_hand_own, cn_heard_own, cn_stamp_own, if_false, if_true]
theorem pc_init (h : Int) : putD "own" (.lst []) (putD "stamp" (.int 0) (putD "heard" (.lst []) (putD "hand" (.int h) []))) = copyF h [] 0 [] := by
  unfold copyF
  simp only [putD, cn_hand_own, cn_heard_own, cn_stamp_own, cn_hand_stamp, cn_heard_stamp, cn_hand_heard, if_false, List.map_nil]
noncomputable def newOf (xs ys : List Dd) : List Dd := ys.filter fun y => !xs.any fun x => decide (x = y)
theorem any_mem {xs : List Dd} {y : Dd} : (xs.any fun x => decide (x = y)) = decide (y ∈ xs) := by
  rw [Bool.eq_iff_iff, List.any_eq_true, decide_eq_true_eq]
  exact ⟨fun ⟨x, hx, e⟩ => (of_decide_eq_true e) ▸ hx, fun h => ⟨y, h, decide_eq_true rfl⟩⟩
theorem mem_newOf {xs ys : List Dd} {y : Dd} : y ∈ newOf xs ys ↔ y ∈ ys ∧ y ∉ xs := by
  unfold newOf
  rw [List.mem_filter, any_mem]
  simp
theorem newOf_one {xs : List Dd} {x : Dd} (h : x ∉ xs) : newOf xs [x] = [x] := by
  unfold newOf
  rw [List.filter_eq_self.mpr]
  intro y hy
  rw [List.mem_singleton.mp hy, any_mem, decide_eq_false h]
  rfl
theorem newOf_old {xs : List Dd} {x : Dd} (h : x ∈ xs) : newOf xs [x] = [] := by
  unfold newOf
  rw [List.filter_eq_nil_iff]
  intro y hy
  rw [List.mem_singleton.mp hy, any_mem, decide_eq_true h]
  simp
theorem evk_self (b : List Sh) (k : Ky) : evk b b k = [] := by
  unfold evk
  cases lookS b k with
  | none => rfl
  | some p => simp
theorem evOf_self (b : List Sh) : evOf b b = [] := by
  unfold evOf
  rw [List.flatMap_eq_nil_iff]
  exact fun k _ => evk_self b k
def ShOk (b : List Sh) : Prop := (shK b).Nodup ∧ b.length < 64 ∧ ∀ p, p ∈ b → PyData.strOk p.1 = true ∧ PyData.strOk p.2.name = true
theorem there_sh {xs : List Dd} (g : Good xs) : ShOk (shown (there xs)) := ⟨there_keys g, by rw [shown_length]; exact there_len g, fun p hp => ⟨(shown_ok g hp).1, nameOk_str (shown_ok g hp).2.2.1⟩⟩
end NF
namespace NF
open PySem L2

def aLeS : AR2 := fun x y M Φ => ∃ a b : Str, x = .str a ∧ y = .str b ∧ Φ (.bl (!decide (b.cps.toList < a.cps.toList))) M
section
variable {X : Cx}
theorem o_leS : OpR X (compareOp .LtE) (rOf X.K aLeS) := OpR.weak op_le_str fun x y H Q ⟨dx, dy, M, P, Φ, r1, r2, s, ⟨a, b, e1, e2, h⟩, q⟩ => by
  subst e1 e2
  cases r1; cases r2
  exact ⟨a, b, rfl, rfl, q.here s h (.bl _)⟩
end
def aInT : AR2 := fun x y M Φ => ∃ (z : Str) (ws : List Str), x = .str z ∧ y = .tup (ws.map D.str) ∧ Φ (.bl (decide (z ∈ ws))) M
theorem inV_strs {z : Str} : ∀ ws : List Str, inV (.str z) (ws.map V.str) = decide (z ∈ ws)
  | [] => by simp [inV]
  | w :: ws => by
    have ih := inV_strs (z := z) ws
    unfold inV at ih ⊢
    rw [List.map_cons, List.any_cons, ih]
    by_cases e : w = z
    · subst e; simp [eqV]
    · have e' : ¬ z = w := fun h => e h.symm
      simp [eqV, e, e']
theorem flat_strs (ws : List Str) : (ws.map V.str).all flatV = true := by
  rw [List.all_eq_true]
  intro v hv
  obtain ⟨_, _, rfl⟩ := List.mem_map.mp hv
  rfl
section
variable {X : Cx}
theorem o_inT : OpR X (compareOp .In) (rOf X.K aInT) := OpR.weak op_in_seq fun x y H Q ⟨dx, dy, M, P, Φ, r1, r2, s, ⟨z, ws, e1, e2, h⟩, q⟩ => by
  subst e1 e2
  cases r1
  cases r2 with
  | tup t al =>
    obtain rfl := RepAll.strs al
    refine ⟨_, _, rfl, .inr (SqT.of (s.sub.tup t)), rfl, flat_strs ws, ?_⟩
    rw [if_neg Bool.false_ne_true, inV_strs]
    exact q.here s h (.bl _)
end
def aSlS (x : D) (lo hi : Option Int) (M : Mp) (Φ : KD) : Prop := ∃ z : Str, x = .str z ∧ z.length ≤ sizeLine ∧ Φ (.str (cutS z lo hi)) M
def slOfS (K : PySem.W.Frag) : V → Option Int → Option Int → Hp → VK → Prop := fun x lo hi H Q => ∃ d M P Φ, Rep K P x d ∧ Sat K P M H ∧ aSlS d lo hi M Φ ∧ Post K P M H Φ Q
def wSlS (we : WE) (wl wh : WO) : WE := fun Γ M Φ => we Γ M fun d M1 => wl Γ M1 fun l M2 => wh Γ M2 fun u M3 => aSlS d l u M3 Φ
section
variable {X : Cx} {e : Expr} {we : WE} {lo hi : Option Expr} {wl wh : WO} {pos p2 : Pos}
theorem sl_txtD : SlR X (slOfS X.K) := SlR.weak sl_str fun x lo hi H Q ⟨d, M, P, Φ, r, s, ⟨z, e, hz, h⟩, q⟩ => by
  subst e
  cases r
  exact ⟨z, rfl, hz, q.here s h (.str _)⟩
theorem d_slS (he : PD X e we) (hl : PO X lo (toOf X.K wl)) (hu : PO X hi (toOf X.K wh)) : PD X (.Subscript e (.Slice lo hi none p2) pos) (wSlS we wl wh) := PE.weak (pe_slice sl_txtD he hl hu) fun σ H Q ⟨Γ, M, P, Φ, s, a, h, q⟩ =>
  ⟨Γ, M, P, _, s, a, h, fun d1 M1 h1 v1 P1 H1 g1 r1 => ⟨Γ, M1, P1, _, s.up g1.le, g1.sat, h1, fun l M2 h2 P2 H2 g2 => ⟨Γ, M2, P2, _, s.up (g1.le.trans g2.le), g2.sat, h2, fun u M3 h3 P3 H3 g3 =>
    ⟨d1, M3, P3, Φ, r1.up (g2.le.trans g3.le), g3.sat, h3, q.mk ((g1.trans g2).trans g3)⟩⟩⟩⟩
end
def aStarts : D → List D → Mp → KD → Prop := fun x ds M Φ => ∃ a b : Str, x = .str a ∧ ds = [.str b] ∧ Φ (.bl (decide (cutS a none (some b.length) = b))) M
theorem starts_cut (a b : Str) : Txt.startswith a b = decide (cutS a none (some b.length) = b) := by
  have e1 : HT.sIx a.length 0 none = 0 := rfl
  have e2 : HT.sIx a.length a.length (some (b.length : Int)) = min b.length a.length := HT.sIx_nat _ _ _
  unfold Txt.startswith cutS
  rw [e1, e2, List.drop_zero, Nat.sub_zero, PySem.StrLaws.subAt_eq, List.drop_zero, Nat.zero_add]
  have la : a.cps.toList.length = a.length := by simp [Str.length]
  have lb : b.cps.toList.length = b.length := by simp [Str.length]
  rw [Bool.eq_iff_iff]
  simp only [Bool.and_eq_true, decide_eq_true_eq, beq_iff_eq]
  constructor
  · rintro ⟨h1, h2⟩
    rw [Nat.min_eq_left h1, h2]
  · intro h
    have h3 : (a.cps.toList.take (min b.length a.length)) = b.cps.toList := by
      have := congrArg (fun z : Str => z.cps.toList) h
      simpa using this
    have h4 := congrArg List.length h3
    rw [List.length_take, la, lb] at h4
    have h5 : b.length ≤ a.length := by omega
    rw [Nat.min_eq_left h5] at h3
    exact ⟨h5, h3⟩
section
variable {X : Cx}
theorem m_startswith : MtR X "str.startswith" (mOf X.K aStarts) := MtR.weak mt_startswith fun x vs H Q ⟨d, ds, M, P, Φ, r1, r2, s, ⟨a, b, e1, e2, h⟩, q⟩ => by
  subst e1 e2
  cases r1
  obtain ⟨v, rfl, rv⟩ := r2.one'
  cases rv
  refine ⟨a, b, rfl, rfl, ?_⟩
  rw [starts_cut]
  exact q.here s h (.bl _)
end
def wBM0 (r : D → List D → Mp → KD → Prop) (T : String) (wo : WE) : WE := fun Γ M Φ => wo Γ M fun d M1 => (match d with
    | .lst _ => T = "list"
    | .op (.ref a) => T = "list" ∧ ∃ ds, (a, MO.lst ds) ∈ M1
    | .str _ => T = "str"
    | _ => False) ∧ r d [] M1 Φ
theorem RepAll.dropLast {K : PySem.W.Frag} {P : Hp} : ∀ {vs : List V} {ds : List D}, RepAll K P vs ds → RepAll K P vs.dropLast ds.dropLast
  | _, [], h => by cases h; exact .nil
  | _, [d], h => by
    cases h with
    | cons h1 h2 => cases h2; exact .nil
  | _, d :: e :: ds, h => by
    cases h with
    | cons h1 h2 =>
      cases h2 with
      | cons h2 h3 => exact .cons h1 (RepAll.dropLast (.cons h2 h3))
def aPop : D → List D → Mp → KD → Prop := fun x ds M Φ => ∃ (a : Addr) (y : D) (xs : List D) (A B : Mp), x = .op (.ref a) ∧ ds = [] ∧ M = A ++ (a, MO.lst xs) :: B ∧ xs[xs.length - 1]? = some y ∧ Φ y (A ++ (a, MO.lst xs.dropLast) :: B)
section
variable {X : Cx}
theorem bm0_of {K : PySem.W.Frag} {r : D → List D → Mp → KD → Prop} {T : String} {wo : WE} (σ : St) (H : Hp) (Q : VK) : tOf K (wBM0 r T wo) σ H Q → tBM0 K T (mOf K r) (tOf K wo) σ H Q := fun ⟨Γ, M, P, Φ, s, a, h, q⟩ =>
  ⟨Γ, M, P, _, s, a, h, fun d M1 ⟨ty, h1⟩ v P1 H1 g r1 => by
    refine ⟨?_, ⟨d, [], M1, P1, Φ, r1, .nil, g.sat, h1, q.mk g⟩⟩
    split at ty
    · cases r1 with
      | lst t al => exact .inl ⟨ty, _, SqL.of (g.sat.sub.lst t)⟩
    · cases r1
      obtain ⟨e, ds, m⟩ := ty
      obtain ⟨_, vs, h1, h2⟩ := g.sat.ob _ _ m
      exact .inl ⟨e, _, SqL.of h1⟩
    · cases r1; exact ty
    · exact ty.elim⟩
theorem d_bm0 {o : Expr} {wo : WE} {name : Str} {apos cpos : Pos} {T id : String} {r : D → List D → Mp → KD → Prop} (pa : PlainAttrs T) (slot : Slot T name id) (hty : typeOf (.builtin id) = pure (.type "method_descriptor")) (hm : MtR X id (mOf X.K r)) (ho : PD X o wo)
    (hbase : attributeBase o name X.env (eval o X.env) = eval o X.env := by rfl) (hline : (apos.endLine == cpos.line) = true := by rfl) :
    PD X (.Call (.Attribute o name apos) [] [] cpos) (wBM0 r T wo) := PE.weak (pe_bm0 pa slot hty hm ho hbase hline) bm0_of
theorem m_pop : MtR X "list.pop" (mOf X.K aPop) := MtR.weak (show MtR X "list.pop" rPop from mt_pop) fun x vs H Q ⟨d, ds, M, P, Φ, r1, r2, s, ⟨a, y, xs, A, B, e1, e2, e3, hy, h⟩, q⟩ => by
  subst e1 e2 e3
  cases r1
  cases r2
  obtain ⟨_, us, h1, h2⟩ := s.ob a (MO.lst xs) (by simp)
  obtain ⟨u, hu, ru⟩ := h2.get hy
  refine ⟨a, us, u, rfl, rfl, h1, by rw [h2.length]; exact hu, q _ _ h _ _ _ (Grow.wrote (o' := MO.lst xs.dropLast) s ⟨_, upd_same, h2.dropLast⟩) ru⟩
end
def wAsg (T : Tg) (w : WE) : WS := fun R Γ M => w Γ M fun d M1 => ∃ Γ', T.put d Γ = some Γ' ∧ R.nx Γ' M1
section
variable {X : Cx}
theorem ds_asg {tg e : Expr} {we : WE} {T : Tg} {pos : Pos} (he : PD X e we) (hg : PG X tg (gOf X.K T)) (hs : swapsWithSole [tg] e pos.line X.env = pure false := by rfl) (hw : swappedStores [tg] e X.env = pure none := by rfl)
    (h1 : (assignEach [tg] X.env).map (·.2) = [assign tg X.env] := by rfl) : PDS X (.Assign [tg] e pos) (wAsg T we) := PS.weak (ps_asg he hg hs hw h1) fun E σ H ⟨Γ, M, P, R, s, sa, h, q⟩ =>
  ⟨Γ, M, P, _, s, sa, h, fun d M1 ⟨Γ', hp, h1⟩ v P1 H1 g r => ⟨d, Γ, P1, M1, Γ', r, s.up g.le, g.sat, hp, fun σ' s' _ => q.nx _ _ h1 _ _ _ g s'⟩⟩
end
def wPairs : List (Str × WE) → Ctx → Mp → (List (Str × D) → Mp → Prop) → Prop
  | [], _, M, Φ => Φ [] M
  | (k, w) :: r, Γ, M, Φ => w Γ M fun d M1 => wPairs r Γ M1 fun ps M2 => Φ ((k, d) :: ps) M2
def PRep (K : PySem.W.Frag) (P : Hp) : List (V × V) → List (Str × D) → Prop := Paired fun p q => p.1 = .str q.1 ∧ Rep K P p.2 q.2
theorem PRep.up {K : PySem.W.Frag} {P P' : Hp} (e : Le P P') : ∀ {xs : List (V × V)} {ys : List (Str × D)}, PRep K P xs ys → PRep K P' xs ys
  | _, _, .nil => .nil
  | _, _, .cons r t => .cons ⟨r.1, r.2.up e⟩ (PRep.up e t)
def tpOf (K : PySem.W.Frag) (w : Ctx → Mp → (List (Str × D) → Mp → Prop) → Prop) (σ : St) (H : Hp) (Q : List (V × V) → Hp → Prop) : Prop := ∃ Γ M P Φ, Slots K P σ Γ ∧ Sat K P M H ∧ w Γ M Φ ∧ ∀ ps M', Φ ps M' → ∀ vs P' H', Grow K P M H P' M' H' → PRep K P' vs ps → Q vs H'
structure PDP (X : Cx) (pos : Pos) (keys : List (Option Expr)) (values : List Expr) (l : List (Str × WE)) : Prop where
  pps : PPs X pos keys values (l.map fun p => (tOf X.K (wC (.str p.1)), tOf X.K p.2))
theorem pairs_of {K : PySem.W.Frag} : ∀ (l : List (Str × WE)) (σ : St) (H : Hp) (Q : List (V × V) → Hp → Prop), tpOf K (wPairs l) σ H Q → tPairs (l.map fun p => (tOf K (wC (.str p.1)), tOf K p.2)) σ H Q
  | [], σ, H, Q, ⟨Γ, M, P, Φ, s, sa, h, q⟩ => q [] M h [] P H (Grow.refl sa) .nil
  | (k, w) :: r, σ, H, Q, ⟨Γ, M, P, Φ, s, sa, h, q⟩ => by
    refine ⟨Γ, M, P, fun d M1 => d = .str k ∧ M1 = M, s, sa, ⟨rfl, rfl⟩, fun d M1 ⟨e1, e2⟩ v P1 H1 g1 r1 => ?_⟩
    subst e1 e2
    cases r1
    refine ⟨Γ, M1, P1, _, s.up g1.le, g1.sat, h, fun d M2 h2 v P2 H2 g2 r2 => ?_⟩
    refine pairs_of r σ H2 _ ⟨Γ, M2, P2, _, (s.up g1.le).up g2.le, g2.sat, h2, fun ps M3 h3 vs P3 H3 g3 r3 => ?_⟩
    exact q _ _ h3 _ _ _ ((g1.trans g2).trans g3) (.cons ⟨rfl, r2.up g3.le⟩ r3)
section
variable {X : Cx} {pos : Pos}
theorem dp_nil : PDP X pos [] [] [] := ⟨pps_nil⟩
theorem dp_cons {k : Str} {ke v : Expr} {ks : List (Option Expr)} {vs : List Expr} {w : WE} {l : List (Str × WE)} (hk : PD X ke (wC (.str k))) (hv : PD X v w) (hr : PDP X pos ks vs l) : PDP X pos (some ke :: ks) (v :: vs) ((k, w) :: l) := ⟨pps_cons hk hv hr.pps⟩
end
def pickS (ps : List (Str × D)) (s : Str) : Option D := (ps.reverse.find? fun p => decide (p.1 = s)).map (·.2)
def wPick (l : List (Str × WE)) (wi : WE) : WE := fun Γ M Φ => wPairs l Γ M fun ps M1 => ps.length ≤ 15 ∧ wi Γ M1 fun z M2 => ∃ s d, z = .str s ∧ pickS ps s = some d ∧ Φ d M2
theorem prep_kvs {K : PySem.W.Frag} {P : Hp} : ∀ {vs : List (V × V)} {ps : List (Str × D)}, PRep K P vs ps → ∃ kvs : List (Key × V), vs = kvs.map (fun kv => (kV kv.1, kv.2)) ∧ Paired (fun (p : Key × V) (q : Str × D) => p.1 = Sum.inr q.1 ∧ Rep K P p.2 q.2) kvs ps
  | _, _, .nil => ⟨[], rfl, .nil⟩
  | _, _, .cons (a := p) (b := q) r t => by
    obtain ⟨kvs, e, h⟩ := prep_kvs t
    obtain ⟨p1, p2⟩ := p
    obtain ⟨r1, r2⟩ := r
    dsimp only at r1
    subst r1
    exact ⟨(Sum.inr q.1, p2) :: kvs, by rw [e]; rfl, .cons ⟨rfl, r2⟩ h⟩
theorem paired_len {α β : Type} {r : α → β → Prop} : ∀ {l : List α} {m : List β}, Paired r l m → l.length = m.length
  | _, _, .nil => rfl
  | _, _, .cons _ t => by rw [List.length_cons, List.length_cons, paired_len t]
theorem val_merge {s : Str} : ∀ (more kvs : List (Key × V)), valV (mergeK kvs more) (Sum.inr s) = match (more.reverse.find? fun p => decide (p.1 = (Sum.inr s : Key))) with | some p => some p.2 | none => valV kvs (Sum.inr s)
  | [], kvs => rfl
  | p :: r, kvs => by
    show valV (mergeK (putK kvs p.1 p.2) r) (Sum.inr s) = _
    rw [val_merge r, List.reverse_cons, List.find?_append, valV_put]
    cases e : r.reverse.find? fun p => decide (p.1 = (Sum.inr s : Key)) with
    | some x => simp
    | none =>
      by_cases c : p.1 = (Sum.inr s : Key)
      · simp [c]
      · have c' : ¬ (Sum.inr s : Key) = p.1 := fun z => c z.symm
        simp [c, c']
theorem pick_val {K : PySem.W.Frag} {P : Hp} {s : Str} {d : D} {kvs : List (Key × V)} {ps : List (Str × D)} (h : Paired (fun (p : Key × V) (q : Str × D) => p.1 = Sum.inr q.1 ∧ Rep K P p.2 q.2) kvs ps) (e : pickS ps s = some d) :
    ∃ v, valV (mergeK [] kvs) (Sum.inr s) = some v ∧ Rep K P v d := by
  have go : ∀ {kvs : List (Key × V)} {ps : List (Str × D)}, Paired (fun (p : Key × V) (q : Str × D) => p.1 = Sum.inr q.1 ∧ Rep K P p.2 q.2) kvs ps → ∀ q, (ps.find? fun p => decide (p.1 = s)) = some q → ∃ p, (kvs.find? fun p => decide (p.1 = (Sum.inr s : Key))) = some p ∧ Rep K P p.2 q.2 := by
    intro kvs ps h
    induction h with
    | nil => intro q hq; cases hq
    | @cons a b as bs r t ih =>
      intro q hq
      rw [List.find?_cons] at hq ⊢
      by_cases c : b.1 = s
      · have c2 : a.1 = (Sum.inr s : Key) := by rw [r.1, c]
        simp only [c, c2, decide_true] at hq ⊢
        cases hq
        exact ⟨a, rfl, r.2⟩
      · have c2 : ¬ a.1 = (Sum.inr s : Key) := by rw [r.1]; intro z; cases z; exact c rfl
        simp only [c, c2, decide_false] at hq ⊢
        exact ih q hq
  have rev : ∀ {kvs : List (Key × V)} {ps : List (Str × D)}, Paired (fun (p : Key × V) (q : Str × D) => p.1 = Sum.inr q.1 ∧ Rep K P p.2 q.2) kvs ps → Paired (fun (p : Key × V) (q : Str × D) => p.1 = Sum.inr q.1 ∧ Rep K P p.2 q.2) kvs.reverse ps.reverse := by
    have app : ∀ {a c : List (Key × V)} {b d : List (Str × D)}, Paired (fun (p : Key × V) (q : Str × D) => p.1 = Sum.inr q.1 ∧ Rep K P p.2 q.2) a b → Paired (fun (p : Key × V) (q : Str × D) => p.1 = Sum.inr q.1 ∧ Rep K P p.2 q.2) c d → Paired (fun (p : Key × V) (q : Str × D) => p.1 = Sum.inr q.1 ∧ Rep K P p.2 q.2) (a ++ c) (b ++ d) := by
      intro a c b d h1 h2
      induction h1 with
      | nil => exact h2
      | cons r t ih => exact .cons r ih
    intro kvs ps h
    induction h with
    | nil => exact .nil
    | cons r t ih =>
      rw [List.reverse_cons, List.reverse_cons]
      exact app ih (.cons r .nil)
  unfold pickS at e
  obtain ⟨q, hq, rfl⟩ := Option.map_eq_some_iff.mp e
  obtain ⟨p, hp, r⟩ := go (rev h) q hq
  exact ⟨p.2, by rw [val_merge, hp], r⟩
section
variable {X : Cx}
theorem d_pick {keys : List (Option Expr)} {values : List Expr} {l : List (Str × WE)} {i : Expr} {wi : WE} {pos p2 : Pos} (hu : X.A.units + 1 < cLine) (h : PDP X p2 keys values l) (hi : PD X i wi) (hall : keys.all (·.isSome) = true := by rfl) (hl : keys.length = values.length := by rfl) (h0 : keys ≠ [] := by simp)
    (h15 : keys.length ≤ 15 := by decide) (hs : NoSl i := by first | exact ⟨rfl⟩ | rfl | trivial) : PD X (.Subscript (.Dict keys values p2) i pos) (wPick l wi) := PE.weak (pe_dget hu (pe_disp h.pps hall hl h0 h15) hi hs) fun σ H Q ⟨Γ, M, P, Φ, s, sa, h, q⟩ => by
  intro p hp
  have g0 : Grow X.K P M H P M (upd H p (.dK [])) := Grow.aside sa hp
  have p0 : P p = none := sa.sub.free hp
  have m0 : p ∉ dom M := nodom sa hp
  refine pairs_of l σ _ _ ⟨Γ, M, P, _, s, g0.sat, h, fun ps M1 ⟨h15, h1⟩ vs P1 H1 g1 r1 => ?_⟩
  obtain ⟨hp1, pp1, pm1⟩ := g1.lone (p := p) (o := .dK []) upd_same p0 m0 (fun _ z => by cases z) (fun _ z => by cases z)
  obtain ⟨kvs, ev, pk⟩ := prep_kvs r1
  have lk : kvs.length = ps.length := paired_len pk
  refine ⟨hp1, kvs, ev, by omega, ?_⟩
  have g2 : Grow X.K P M H P1 M1 (upd H1 p (.dK (mergeK [] kvs))) := (g0.trans g1).side hp pp1 pm1 (fun q z => by rw [hp1] at z; cases z)
  refine ⟨Γ, M1, P1, _, s.up g2.le, g2.sat, h1, fun z M2 ⟨w, d, ez, hd, h2⟩ v P2 H2 g3 r3 => ?_⟩
  subst ez
  cases r3
  obtain ⟨v, hv, rv⟩ := pick_val pk hd
  obtain ⟨hp2, _, _⟩ := g3.lone (p := p) (o := .dK (mergeK [] kvs)) upd_same pp1 pm1 (fun _ z => by cases z) (fun _ z => by cases z)
  exact ⟨p, v, rfl, .inl ⟨_, Sum.inr w, .inl hp2, rfl, hv.symm⟩, q _ _ h2 _ _ _ (g2.trans g3) (rv.up g3.le)⟩
end
end NF
namespace NF
open PySem L2

theorem look_kvG {α : Type} {f : α → Ky} {v : α → D} (l : List α) (k : Ky) : lookA (kvOf f v l) (kk k) = (l.find? fun x => decide (f x = k)).map v := by
  induction l with
  | nil => rfl
  | cons p l ih =>
    unfold lookA kvOf at *
    simp only [List.map_cons, List.find?_cons]
    by_cases e : f p = k
    · simp [e]
    · have : decide (kk (f p) = kk k) = false := by simp [kk_inj, e]
      simp only [this, decide_eq_false e]
      exact ih
theorem look_rows {C : Addr} (l : List Rc) (k : Ky) : lookA ((l.map fun r => kk r.key).zip (l.map (rcd C))) (kk k) = (l.find? fun r => decide (r.key = k)).map (rcd C) := by
  rw [← look_kvG (f := Rc.key) (v := rcd C)]
  congr 1
  unfold kvOf
  induction l with
  | nil => rfl
  | cons r l ih => simp [ih]
noncomputable def rowAt (xs : List Dd) (k : Ky) : Option Rc := (there xs).find? fun r => decide (r.key = k)
theorem find_uniq {α : Type} {f : α → Ky} {k : Ky} {x : α} : ∀ {l : List α}, (l.map f).Nodup → x ∈ l → f x = k → (l.find? fun y => decide (f y = k)) = some x
  | [], _, h, _ => by cases h
  | y :: l, nd, h, e => by
    rw [List.map_cons, List.nodup_cons] at nd
    rw [List.find?_cons]
    rcases List.mem_cons.mp h with z | z
    · subst z; simp [e]
    · have ne : ¬ f y = k := fun q => nd.1 (by rw [q, ← e]; exact List.mem_map.mpr ⟨x, z, rfl⟩)
      simp only [decide_eq_false ne]
      exact find_uniq nd.2 z e
theorem find_none' {α : Type} {f : α → Ky} {k : Ky} {l : List α} (h : ∀ x, x ∈ l → f x ≠ k) : (l.find? fun y => decide (f y = k)) = none := by
  rw [List.find?_eq_none]
  intro x hx
  simpa using h x hx
theorem rows_kn {xs : List Dd} (g : Good xs) : ((rows xs).map Rc.key).Nodup := rows_keys g _
theorem there_kn {xs : List Dd} (g : Good xs) : ((there xs).map Rc.key).Nodup := by
  have p : (there xs).Perm ((rows xs).filter fun r => !r.gone) := List.mergeSort_perm _ _
  rw [(p.map Rc.key).nodup_iff]
  exact ((List.filter_sublist).map Rc.key).nodup (rows_kn g)
theorem rowAt_rows {xs : List Dd} (g : Good xs) (k : Ky) : rowAt xs k = match (rows xs).find? fun r => decide (r.key = k) with | none => none | some r => if r.gone = true then none else some r := by
  cases e : (rows xs).find? fun r => decide (r.key = k) with
  | none =>
    rw [List.find?_eq_none] at e
    refine find_none' fun r hr z => ?_
    exact e r (there_mem.mp hr).1 (by simpa using z)
  | some r =>
    have m := List.mem_of_find?_eq_some e
    have kr : r.key = k := by simpa using List.find?_some e
    dsimp only
    by_cases c : r.gone = true
    · rw [if_pos c]
      refine find_none' fun s hs z => ?_
      have ms := there_mem.mp hs
      have := find_uniq (rows_kn g) ms.1 z
      rw [e] at this
      cases this
      rw [c] at ms
      cases ms.2
    · rw [if_neg c]
      exact find_uniq (there_kn g) (there_mem.mpr ⟨m, by simpa using c⟩) kr
theorem rowAt_some {xs : List Dd} {k : Ky} {r : Rc} (h : rowAt xs k = some r) : r ∈ there xs ∧ r.key = k := ⟨List.mem_of_find?_eq_some h, by simpa using List.find?_some h⟩
theorem rowAt_of {xs : List Dd} (g : Good xs) {r : Rc} (h : r ∈ there xs) : rowAt xs r.key = some r := find_uniq (there_kn g) h rfl
theorem row_deed {xs : List Dd} {r : Rc} (h : r ∈ there xs) : ∃ x, x ∈ xs ∧ x.key = r.key := by
  have h1 := (there_mem.mp h).1
  unfold rows at h1
  obtain ⟨s, hs, rfl⟩ := List.mem_map.mp h1
  obtain ⟨x, hx, e⟩ := List.mem_filterMap.mp hs
  refine ⟨x, mem_ordd.mp hx, ?_⟩
  rw [rowsAt_key]
  exact ((made_key e).1).symm
theorem rowAt_look {xs : List Dd} (k : Ky) : (lookS (shown (there xs)) k).map (·.2) = rowAt xs k := by
  unfold lookS rowAt
  conv => rhs; rw [← shown_rows (there xs)]
  rw [List.find?_map]
  rfl
theorem rowAt_none {xs : List Dd} {k : Ky} : rowAt xs k = none ↔ ∀ p, p ∈ shown (there xs) → p.2.key ≠ k := by
  rw [← rowAt_look, Option.map_eq_none_iff]
  unfold lookS
  rw [List.find?_eq_none]
  constructor
  · intro h p hp z
    exact h p hp (by simpa using z)
  · intro h p hp z
    exact h p hp (by simpa using z)
/-- a name that another row has -/
noncomputable def takenB (xs : List Dd) (ko : Option Ky) (n : Str) : Bool := (shown (there xs)).any fun p => !decide (some p.2.key = ko) && decide (p.1 = n)
def keyO : Option Ky → D
  | none => .non
  | some k => Ky.d k
theorem eqb_keyO {a : Ky} {ko : Option Ky} : D.eqb (Ky.d a) (keyO ko) = decide (some a = ko) := by
  cases ko with
  | none => unfold D.eqb; simp [keyO]
  | some k =>
    show D.eqb (Ky.d a) (Ky.d k) = _
    rw [eqb_key]
    simp
theorem eqk_keyO {ko : Option Ky} : D.eqOk (keyO ko) := by
  cases ko with
  | none => exact eqk_non
  | some k => exact eqk_key
theorem now_keyO {M : Mp} {ko : Option Ky} {d : D} : Now M (keyO ko) d ↔ d = keyO ko := by
  cases ko with
  | none => exact now_non
  | some k => exact now_tup
inductive Rf | row | name | taken | number | nothing
def Rf.s : Rf → Str
  | .row => "no row"
  | .name => "name"
  | .taken => "taken"
  | .number => "number"
  | .nothing => "nothing"
inductive Wd | new | name | worth | drop
def Wd.s : Wd → Str
  | .new => "new"
  | .name => "name"
  | .worth => "worth"
  | .drop => "drop"
noncomputable def badOf (xs : List Dd) (wd : Wd) (key : Ky) (what : Str) (more : Int) : Option Rf :=
  match wd with
  | .new => if nameB what = false then some .name else if takenB xs none what = true then some .taken else if worthB more = false then some .number else none
  | .name => if (rowAt xs key).isNone = true then some .row else if nameB what = false then some .name else if takenB xs (some key) what = true then some .taken else none
  | .worth => if (rowAt xs key).isNone = true then some .row else if worthB more = false then some .number else none
  | .drop => if (rowAt xs key).isNone = true then some .row else none
def deedOf (wd : Wd) (k key : Ky) (what : Str) (more : Int) : Dd :=
  match wd with
  | .new => .new k what more
  | .name => .name k key what
  | .worth => .worth k key more
  | .drop => .drop k key
inductive Bk | non | nm (s : Str) | wo (i : Int)
def Bk.d : Bk → D
  | .non => .non
  | .nm s => .str s
  | .wo i => .int i
def Bk.is : Bk → Bool
  | .non => false
  | _ => true
theorem bk_non (b : Bk) : D.isNon b.d = !b.is := by cases b <;> rfl
noncomputable def bkOf (xs : List Dd) (wd : Wd) (key : Ky) : Bk :=
  match wd, rowAt xs key with
  | .name, some r => .nm r.name
  | .worth, some r => .wo r.worth
  | _, _ => .non
theorem deed_key (wd : Wd) (k key : Ky) (what : Str) (more : Int) : (deedOf wd k key what more).key = k := by cases wd <;> rfl
structure CpOk (h : Int) (xs : List Dd) (st : Int) : Prop where
  g : Good xs
  few : xs.length < 63
  h0 : 1 ≤ h
  h1 : h ≤ 5
  s0 : 0 ≤ st
  s1 : st ≤ 999
  le : ∀ x, x ∈ xs → x.key.1 ≤ st
theorem deed_ok {h : Int} {xs : List Dd} {st : Int} {wd : Wd} {key : Ky} {what : Str} {more : Int} (c : CpOk h xs st) (b : badOf xs wd key what more = none) (s : st ≠ 999) : (deedOf wd (st + 1, h) key what more).ok := by
  have kk : KeyOk (st + 1, h) := ⟨by show 1 ≤ st + 1; have := c.s0; omega, by show st + 1 ≤ 999; have := c.s1; omega, c.h0, c.h1⟩
  have at_ : (rowAt xs key).isNone = false → KeyOk key ∧ klt key (st + 1, h) := fun e => by
    cases er : rowAt xs key with
    | none => rw [er] at e; cases e
    | some r =>
      obtain ⟨m, k⟩ := rowAt_some er
      obtain ⟨x, hx, kx⟩ := row_deed m
      rw [k] at kx
      have := (c.g.ok x hx).key
      have l := c.le x hx
      rw [kx] at this l
      exact ⟨this, .inl (by show key.1 < st + 1; omega)⟩
  cases wd with
  | new =>
    simp only [badOf] at b
    split at b; · cases b
    split at b; · cases b
    split at b; · cases b
    rename_i h1 _ h3
    exact ⟨kk, nameB_iff.mp (by simpa using h1), worthB_iff.mp (by simpa using h3)⟩
  | name =>
    simp only [badOf] at b
    split at b; · cases b
    split at b; · cases b
    split at b; · cases b
    rename_i h0 h1 _
    obtain ⟨a1, a2⟩ := at_ (Bool.eq_false_iff.mpr h0)
    exact ⟨kk, a1, a2, nameB_iff.mp (by simpa using h1)⟩
  | worth =>
    simp only [badOf] at b
    split at b; · cases b
    split at b; · cases b
    rename_i h0 h1
    obtain ⟨a1, a2⟩ := at_ (Bool.eq_false_iff.mpr h0)
    exact ⟨kk, a1, a2, worthB_iff.mp (by simpa using h1)⟩
  | drop =>
    simp only [badOf] at b
    split at b; · cases b
    rename_i h0
    obtain ⟨a1, a2⟩ := at_ (Bool.eq_false_iff.mpr h0)
    exact ⟨kk, a1, a2⟩
theorem CpOk.fresh {h : Int} {xs : List Dd} {st : Int} (c : CpOk h xs st) {x : Dd} (k : x.key.1 = st + 1) : x ∉ xs := fun m => by
  have := c.le x m
  omega
theorem CpOk.more {h : Int} {xs : List Dd} {st : Int} (c : CpOk h xs st) {x : Dd} (k : x.key.1 = st + 1) (ok : x.ok) : Good (xs ++ [x]) := by
  refine ⟨fun y hy => ?_, fun y z hy hz e => ?_, by have := c.few; simp; omega⟩
  · rcases List.mem_append.mp hy with m | m
    · exact c.g.ok y m
    · rw [List.mem_singleton.mp m]; exact ok
  · rcases List.mem_append.mp hy with m | m <;> rcases List.mem_append.mp hz with n | n
    · exact c.g.one y z m n e
    · rw [List.mem_singleton.mp n] at e ⊢
      have := c.le y m
      rw [e] at this
      omega
    · rw [List.mem_singleton.mp m] at e ⊢
      have := c.le z n
      rw [← e] at this
      omega
    · rw [List.mem_singleton.mp m, List.mem_singleton.mp n]
noncomputable def toldD (xs : List Dd) (x : Dd) : D := .tup [x.d, .lst (evOf (shown (there xs)) (shown (there (xs ++ [x]))))]
def owD (p : Dd × Bk) : D := .tup [p.1.d, p.2.d]
/-- which deed takes back -/
def backOf (k : Ky) (p : Dd × Bk) : Dd :=
  match p with
  | (.name _ a _, .nm s) => .name k a s
  | (.worth _ a _, .wo i) => .worth k a i
  | (x, _) => x
def OwOk (p : Dd × Bk) : Prop :=
  match p with
  | (_, .non) => True
  | (.name _ a _, .nm s) => KeyOk a ∧ NameOk s
  | (.worth _ a _, .wo i) => KeyOk a ∧ WorthOk i
  | _ => False
noncomputable def lastB (os : List (Dd × Bk)) : Option (Dd × Bk) := (os.filter fun p => p.2.is).getLast?
def ownL (p : Dd × Bk) : D :=
  match p.1 with
  | .name _ a _ => .tup [.str "name", Ky.d a, p.2.d]
  | .worth _ a _ => .tup [.str "worth", Ky.d a, p.2.d]
  | _ => .non
structure OwsOk (st : Int) (os : List (Dd × Bk)) : Prop where
  ok : ∀ p, p ∈ os → OwOk p ∧ p.1.ok
  le : ∀ p, p ∈ os → p.1.key.1 ≤ st
  nd : (os.map fun p => p.1.key).Nodup
theorem OwsOk.more {st : Int} {os : List (Dd × Bk)} (o : OwsOk st os) {x : Dd} {b : Bk} (k : x.key.1 = st + 1) (ok : x.ok) (ob : OwOk (x, b)) : OwsOk (st + 1) (os ++ [(x, b)]) := by
  refine ⟨fun p hp => ?_, fun p hp => ?_, ?_⟩
  · rcases List.mem_append.mp hp with m | m
    · exact o.ok p m
    · rw [List.mem_singleton.mp m]; exact ⟨ob, ok⟩
  · rcases List.mem_append.mp hp with m | m
    · have := o.le p m; omega
    · rw [List.mem_singleton.mp m]; show x.key.1 ≤ st + 1; omega
  · rw [List.map_append, List.nodup_append]
    refine ⟨o.nd, by simp, fun a ha b hb => ?_⟩
    obtain ⟨p, hp, rfl⟩ := List.mem_map.mp ha
    simp at hb
    intro e
    have := o.le p hp
    rw [e, hb] at this
    omega
theorem OwsOk.some {st : Int} {os : List (Dd × Bk)} (o : OwsOk st os) (q : Dd × Bk → Bool) : OwsOk st (os.filter q) :=
  ⟨fun p hp => o.ok p (List.mem_filter.mp hp).1, fun p hp => o.le p (List.mem_filter.mp hp).1, ((List.filter_sublist).map _).nodup o.nd⟩
theorem lastB_mem {os : List (Dd × Bk)} {p : Dd × Bk} (h : lastB os = some p) : p ∈ os ∧ p.2.is = true := by
  have := List.mem_of_getLast? h
  exact List.mem_filter.mp this
/-- what is left of the own deeds when the last was taken back -/
theorem back_left {st : Int} {os : List (Dd × Bk)} (o : OwsOk st os) {p : Dd × Bk} (h : lastB os = some p) {x : Dd} : (((os ++ [(x, Bk.non)]).filter fun q => !decide (q.1 = p.1)).filter fun q => q.2.is) = (os.filter fun q => q.2.is).dropLast := by
  have e1 : (((os ++ [(x, Bk.non)]).filter fun q => !decide (q.1 = p.1)).filter fun q => q.2.is) = ((os ++ [(x, Bk.non)]).filter fun q => q.2.is).filter fun q => !decide (q.1 = p.1) := by
    rw [List.filter_filter, List.filter_filter]
    congr 1
    funext q
    exact Bool.and_comm _ _
  have e2 : ((os ++ [(x, Bk.non)]).filter fun q => q.2.is) = os.filter fun q => q.2.is := by
    rw [List.filter_append]
    simp [Bk.is]
  rw [e1, e2]
  unfold lastB at h
  have o2 := (o.some fun q => q.2.is).nd
  generalize (os.filter fun q => q.2.is) = l at h o2
  obtain ⟨l', rfl⟩ : ∃ l', l = l' ++ [p] := by
    rw [List.getLast?_eq_some_iff] at h
    exact h
  rw [List.dropLast_concat, List.filter_append]
  have : ([p].filter fun q => !decide (q.1 = p.1)) = [] := by simp
  rw [this, List.append_nil, List.filter_eq_self]
  intro q hq
  rw [List.map_append, List.nodup_append] at o2
  have := o2.2.2 q.1.key (List.mem_map.mpr ⟨q, hq, rfl⟩) p.1.key (by simp)
  simp only [Bool.not_eq_true', decide_eq_false_iff_not]
  intro e
  exact this (by rw [e])
theorem bk_ok {xs : List Dd} (g : Good xs) {wd : Wd} {k key : Ky} {what : Str} {more : Int} : OwOk (deedOf wd k key what more, bkOf xs wd key) := by
  cases wd with
  | new => exact trivial
  | drop => exact trivial
  | name =>
    unfold bkOf
    cases e : rowAt xs key with
    | none => exact trivial
    | some r =>
      obtain ⟨m, kr⟩ := rowAt_some e
      have ok := there_ok g m
      obtain ⟨x, hx, kx⟩ := row_deed m
      rw [kr] at kx
      exact ⟨kx ▸ (g.ok x hx).key, ok.2.1⟩
  | worth =>
    unfold bkOf
    cases e : rowAt xs key with
    | none => exact trivial
    | some r =>
      obtain ⟨m, kr⟩ := rowAt_some e
      have ok := there_ok g m
      obtain ⟨x, hx, kx⟩ := row_deed m
      rw [kr] at kx
      exact ⟨kx ▸ (g.ok x hx).key, ok.2.2.2⟩
end NF
namespace NF
open PySem L2

structure Cp where
  a : Addr
  h : Int
  xs : List Dd
  st : Int
  os : List (Dd × Bk)
def Cp.f (C : Addr) (s : Cp) : Addr × MO := (s.a, MO.ins C (copyF s.h s.xs s.st (s.os.map owD)))
def Cm (C : Addr) (cs : List Cp) : Mp := (cs.map (Cp.f C)).reverse
theorem Cm_snoc (C : Addr) (cs : List Cp) (s : Cp) : Cm C (cs ++ [s]) = s.f C :: Cm C cs := by simp [Cm]
theorem Cm_at {C : Addr} {cs : List Cp} {i : Nat} {s : Cp} (h : cs[i]? = some s) : ∃ U V, Cm C cs = U ++ s.f C :: V ∧ ∀ s', Cm C (cs.set i s') = U ++ s'.f C :: V := by
  obtain ⟨hi, e⟩ := List.getElem?_eq_some_iff.mp h
  refine ⟨Cm C (cs.drop (i + 1)), Cm C (cs.take i), ?_, fun s' => ?_⟩
  · have : cs = cs.take i ++ s :: cs.drop (i + 1) := by
      rw [← e, ← List.drop_eq_getElem_cons hi, List.take_append_drop]
    conv => lhs; rw [this]
    simp [Cm]
  · have : cs.set i s' = cs.take i ++ s' :: cs.drop (i + 1) := by
      rw [List.set_eq_take_append_cons_drop, if_pos hi]
    rw [this]
    simp [Cm]
theorem Cm_mem {C : Addr} {cs : List Cp} {i : Nat} {s : Cp} (h : cs[i]? = some s) : s.f C ∈ Cm C cs := by
  unfold Cm
  rw [List.mem_reverse]
  exact List.mem_map.mpr ⟨s, List.mem_of_getElem? h, rfl⟩
structure Cw (E : List Dd) (s : Cp) : Prop where
  cp : CpOk s.h s.xs s.st
  nd : s.xs.Nodup
  sub : ∀ x, x ∈ s.xs → x ∈ E
  own : ∀ x, x ∈ E → x.key.2 = s.h → x ∈ s.xs
  cl : ∀ x, x ∈ s.xs → ∀ k, x.at_ = some k → ∃ y, y ∈ s.xs ∧ isNew y = true ∧ y.key = k
  ls : s.st ≤ E.length
  lo : s.os.length ≤ E.length
structure Ws (E : List Dd) (cs : List Cp) : Prop where
  dd : Deeds E
  few : E.length ≤ 24
  stamp : ∀ x, x ∈ E → x.key.1 ≤ E.length
  each : ∀ (j : Nat) s, cs[j]? = some s → Cw E s
  hands : ∀ (j : Nat) s, cs[j]? = some s → s.h = (j : Int) + 1
  home : ∀ x, x ∈ E → ∃ (j : Nat) (s : Cp), cs[j]? = some s ∧ s.h = x.key.2
theorem newOf_twice (xs ys : List Dd) : newOf xs (newOf xs ys) = newOf xs ys := by
  unfold newOf
  rw [List.filter_filter]
  congr 1
  funext y
  simp
theorem newOf_self (xs : List Dd) : newOf xs (ordd xs) = [] := by
  unfold newOf
  rw [List.filter_eq_nil_iff]
  intro y hy
  rw [any_mem, decide_eq_true (mem_ordd.mp hy)]
  simp
noncomputable def joinC (s r : Cp) (st' : Int) : Cp := { s with xs := s.xs ++ newOf s.xs (ordd r.xs), st := st' }
theorem mem_join {s r : Cp} {st' : Int} {x : Dd} : x ∈ (joinC s r st').xs ↔ x ∈ s.xs ∨ x ∈ r.xs := by
  unfold joinC
  simp only [List.mem_append, mem_newOf, mem_ordd]
  constructor
  · rintro (h | ⟨h, _⟩)
    · exact .inl h
    · exact .inr h
  · rintro (h | h)
    · exact .inl h
    · by_cases c : x ∈ s.xs
      · exact .inl c
      · exact .inr ⟨h, c⟩
theorem join_nd {s r : Cp} {st' : Int} (nd : s.xs.Nodup) : (joinC s r st').xs.Nodup := by
  unfold joinC
  dsimp only
  rw [List.nodup_append]
  refine ⟨nd, ?_, fun a ha b hb e => ?_⟩
  · unfold newOf
    exact (List.filter_sublist).nodup (ordd_nodup _)
  · subst e
    exact (mem_newOf.mp hb).2 ha
theorem Ws.good {E : List Dd} {cs : List Cp} (ws : Ws E cs) {l : List Dd} (nd : l.Nodup) (sub : ∀ x, x ∈ l → x ∈ E) : Good l ∧ l.length ≤ 24 := by
  have h1 := nodup_le nd sub
  have h2 := ws.few
  exact ⟨⟨fun x hx => ws.dd.ok x (sub x hx), fun x y hx hy e => ws.dd.one x y (sub x hx) (sub y hy) e, by omega⟩, by omega⟩
theorem Cw.join {E : List Dd} {cs : List Cp} (ws : Ws E cs) {s r : Cp} (c : Cw E s) (d : Cw E r) {st' : Int} (h1 : st' ∈ s.st :: (newOf s.xs (ordd r.xs)).map (fun y => y.key.1)) (h2 : ∀ z, z ∈ s.st :: (newOf s.xs (ordd r.xs)).map (fun y => y.key.1) → z ≤ st') : Cw E (joinC s r st') := by
  have sub : ∀ x, x ∈ (joinC s r st').xs → x ∈ E := fun x hx => by
    rcases mem_join.mp hx with z | z
    · exact c.sub x z
    · exact d.sub x z
  obtain ⟨g, l⟩ := ws.good (join_nd (r := r) (st' := st') c.nd) sub
  have s1 : s.st ≤ st' := h2 _ (by simp)
  have few := ws.few
  have up : st' ≤ E.length := by
    rcases List.mem_cons.mp h1 with z | z
    · rw [z]; exact c.ls
    · obtain ⟨y, hy, rfl⟩ := List.mem_map.mp z
      exact ws.stamp y (d.sub y (mem_ordd.mp (mem_newOf.mp hy).1))
  have s0 := c.cp.s0
  refine ⟨⟨g, by omega, c.cp.h0, c.cp.h1, by show 0 ≤ st'; omega, by show st' ≤ 999; omega, fun x hx => ?_⟩, join_nd c.nd, sub, fun x hx e => mem_join.mpr (.inl (c.own x hx e)), fun x hx k hk => ?_, up, c.lo⟩
  · show x.key.1 ≤ st'
    unfold joinC at hx
    rcases List.mem_append.mp hx with z | z
    · have := c.cp.le x z; omega
    · exact h2 _ (List.mem_cons_of_mem _ (List.mem_map.mpr ⟨x, z, rfl⟩))
  · rcases mem_join.mp hx with z | z
    · obtain ⟨y, hy, e⟩ := c.cl x z k hk
      exact ⟨y, mem_join.mpr (.inl hy), e⟩
    · obtain ⟨y, hy, e⟩ := d.cl x z k hk
      exact ⟨y, mem_join.mpr (.inr hy), e⟩
theorem Ws.set {E : List Dd} {cs : List Cp} (ws : Ws E cs) {i : Nat} {s s' : Cp} (hs : cs[i]? = some s) (c : Cw E s') (e : s'.h = s.h) : Ws E (cs.set i s') := by
  have hi := (List.getElem?_eq_some_iff.mp hs).1
  refine ⟨ws.dd, ws.few, ws.stamp, fun j r hr => ?_, fun j r hr => ?_, fun x hx => ?_⟩
  · rw [List.getElem?_set] at hr
    split at hr
    · cases hr
      exact c
    · exact ws.each j r hr
  · rw [List.getElem?_set] at hr
    split at hr
    · rename_i z
      cases hr
      rw [e, ← z]
      exact ws.hands i s hs
    · exact ws.hands j r hr
  · obtain ⟨j, r, hr, hh⟩ := ws.home x hx
    by_cases z : i = j
    · subst z
      rw [hs] at hr
      cases hr
      exact ⟨i, s', by rw [List.getElem?_set, if_pos rfl, if_pos hi], e.trans hh⟩
    · exact ⟨j, r, by rw [List.getElem?_set, if_neg z]; exact hr, hh⟩
theorem Cw.keep {E : List Dd} {s : Cp} (c : Cw E s) {x : Dd} (ne : x.key.2 ≠ s.h) : Cw (E ++ [x]) s := by
  refine ⟨c.cp, c.nd, fun y hy => List.mem_append_left _ (c.sub y hy), fun y hy e => ?_, c.cl, ?_, ?_⟩
  · rcases List.mem_append.mp hy with z | z
    · exact c.own y z e
    · rw [List.mem_singleton.mp z] at e
      exact absurd e ne
  · have := c.ls; rw [List.length_append, List.length_singleton]; omega
  · have := c.lo; rw [List.length_append, List.length_singleton]; omega
/-- a hand does a deed -/
theorem Ws.make {E : List Dd} {cs : List Cp} (ws : Ws E cs) (few : E.length < 24) {i : Nat} {s : Cp} (hs : cs[i]? = some s) {x : Dd} (k : x.key = (s.st + 1, s.h)) (ok : x.ok) (at_ : ∀ k, x.at_ = some k → ∃ y, y ∈ s.xs ∧ isNew y = true ∧ y.key = k) (b : Bk) :
    Ws (E ++ [x]) (cs.set i { s with xs := s.xs ++ [x], st := s.st + 1, os := s.os ++ [(x, b)] }) := by
  have hi := (List.getElem?_eq_some_iff.mp hs).1
  have c := ws.each i s hs
  have k1 : x.key.1 = s.st + 1 := by rw [k]
  have k2 : x.key.2 = s.h := by rw [k]
  have ls := c.ls
  have nx : ∀ y, y ∈ E → y.key ≠ x.key := fun y hy e => by
    have m := c.own y hy (by rw [e]; exact k2)
    have := c.cp.le y m
    rw [e] at this
    omega
  have dd : Deeds (E ++ [x]) := by
    refine ⟨fun y hy => ?_, ?_⟩
    · rcases List.mem_append.mp hy with m | m
      · exact ws.dd.ok y m
      · rw [List.mem_singleton.mp m]; exact ok
    · rw [List.map_append, List.nodup_append]
      refine ⟨ws.dd.nd, by simp, fun a ha b hb => ?_⟩
      obtain ⟨y, hy, rfl⟩ := List.mem_map.mp ha
      simp at hb
      rw [hb]
      exact nx y hy
  have nxs : x ∉ s.xs := c.cp.fresh k1
  have lo := c.lo
  have s0 := c.cp.s0
  have lxs := nodup_le c.nd c.sub
  have new : Cw (E ++ [x]) { s with xs := s.xs ++ [x], st := s.st + 1, os := s.os ++ [(x, b)] } := by
    refine ⟨⟨c.cp.more k1 ok, by rw [List.length_append, List.length_singleton]; omega, c.cp.h0, c.cp.h1, by show 0 ≤ s.st + 1; omega, by show s.st + 1 ≤ 999; omega, fun y hy => ?_⟩, ?_, fun y hy => ?_, fun y hy e => ?_, fun y hy k hk => ?_, ?_, ?_⟩
    · show y.key.1 ≤ s.st + 1
      rcases List.mem_append.mp hy with m | m
      · have := c.cp.le y m; omega
      · rw [List.mem_singleton.mp m]; omega
    · show (s.xs ++ [x]).Nodup
      rw [List.nodup_append]
      refine ⟨c.nd, by simp, fun a ha b hb e => ?_⟩
      simp at hb
      rw [e, hb] at ha
      exact nxs ha
    · rcases List.mem_append.mp hy with m | m
      · exact List.mem_append_left _ (c.sub y m)
      · exact List.mem_append_right _ m
    · rcases List.mem_append.mp hy with m | m
      · exact List.mem_append_left _ (c.own y m e)
      · exact List.mem_append_right _ m
    · rcases List.mem_append.mp hy with m | m
      · obtain ⟨z, hz, e⟩ := c.cl y m k hk
        exact ⟨z, List.mem_append_left _ hz, e⟩
      · rw [List.mem_singleton.mp m] at hk
        obtain ⟨z, hz, e⟩ := at_ k hk
        exact ⟨z, List.mem_append_left _ hz, e⟩
    · show s.st + 1 ≤ ((E ++ [x]).length : Int)
      rw [List.length_append, List.length_singleton]
      omega
    · show (s.os ++ [(x, b)]).length ≤ (E ++ [x]).length
      rw [List.length_append, List.length_append, List.length_singleton, List.length_singleton]
      omega
  refine ⟨dd, by rw [List.length_append, List.length_singleton]; omega, fun y hy => ?_, fun j r hr => ?_, fun j r hr => ?_, fun y hy => ?_⟩
  · rw [List.length_append, List.length_singleton]
    rcases List.mem_append.mp hy with m | m
    · have := ws.stamp y m; omega
    · rw [List.mem_singleton.mp m]; omega
  · rw [List.getElem?_set] at hr
    split at hr
    · cases hr
      exact new
    · rename_i z
      refine (ws.each j r hr).keep fun e => z ?_
      have h1 := ws.hands i s hs
      have h2 := ws.hands j r hr
      rw [k2] at e
      omega
  · rw [List.getElem?_set] at hr
    split at hr
    · rename_i z
      cases hr
      rw [← z]
      exact ws.hands i s hs
    · exact ws.hands j r hr
  · rcases List.mem_append.mp hy with m | m
    · obtain ⟨j, r, hr, hh⟩ := ws.home y m
      by_cases z : i = j
      · subst z
        rw [hs] at hr
        cases hr
        exact ⟨i, { s with xs := s.xs ++ [x], st := s.st + 1, os := s.os ++ [(x, b)] }, by rw [List.getElem?_set, if_pos rfl, if_pos hi], hh⟩
      · exact ⟨j, r, by rw [List.getElem?_set, if_neg z]; exact hr, hh⟩
    · rw [List.mem_singleton.mp m]
      exact ⟨i, { s with xs := s.xs ++ [x], st := s.st + 1, os := s.os ++ [(x, b)] }, by rw [List.getElem?_set, if_pos rfl, if_pos hi], k2.symm⟩
theorem row_new_deed {xs : List Dd} {r : Rc} (h : r ∈ there xs) : ∃ x, x ∈ xs ∧ isNew x = true ∧ x.key = r.key := by
  have h1 := (there_mem.mp h).1
  unfold rows at h1
  obtain ⟨s, hs, rfl⟩ := List.mem_map.mp h1
  obtain ⟨x, hx, e⟩ := List.mem_filterMap.mp hs
  refine ⟨x, mem_ordd.mp hx, ?_, ?_⟩
  · cases x <;> simp [made] at e
    rfl
  · rw [rowsAt_key]
    exact ((made_key e).1).symm
/-- which rows are there -/
theorem there_iff {xs : List Dd} {k : Ky} : k ∈ (there xs).map Rc.key ↔ (∃ x, x ∈ xs ∧ isNew x = true ∧ x.key = k) ∧ ¬ ∃ y, y ∈ xs ∧ isDrop y = true ∧ y.at_ = some k := by
  have gone : ∀ r : Rc, r.gone = false → (rowsAt (ordd xs) r).gone = (aboutL (ordd xs) r.key).any isDrop := fun r hr => by
    have e1 : rowsAt (ordd xs) r = rowsAt (aboutL (ordd xs) r.key) r := (fold_mine r (ordd xs)).symm
    have := (fold_parts (l := aboutL (ordd xs) r.key) (r := r) fun x hx => by simpa using (List.mem_filter.mp hx).2).1
    rw [e1, this, hr, Bool.false_or]
  have goneD : ∀ r : Rc, r.gone = false → ((rowsAt (ordd xs) r).gone = true ↔ ∃ y, y ∈ xs ∧ isDrop y = true ∧ y.at_ = some r.key) := fun r hr => by
    rw [gone r hr, List.any_eq_true]
    constructor
    · rintro ⟨y, hy, hd⟩
      obtain ⟨m, e⟩ := List.mem_filter.mp hy
      exact ⟨y, mem_ordd.mp m, hd, by simpa using e⟩
    · rintro ⟨y, hy, hd, e⟩
      exact ⟨y, List.mem_filter.mpr ⟨mem_ordd.mpr hy, by simpa using e⟩, hd⟩
  constructor
  · intro h
    obtain ⟨r, hr, rfl⟩ := List.mem_map.mp h
    refine ⟨row_new_deed hr, ?_⟩
    obtain ⟨h1, h2⟩ := there_mem.mp hr
    unfold rows at h1
    obtain ⟨s, hs, rfl⟩ := List.mem_map.mp h1
    obtain ⟨x, hx, e⟩ := List.mem_filterMap.mp hs
    have sg : s.gone = false := by cases x <;> simp [made] at e; subst e; rfl
    rw [rowsAt_key, ← goneD s sg, h2]
    decide
  · rintro ⟨⟨x, hx, nw, rfl⟩, nd⟩
    cases x with
    | new k n v =>
      have sg : (⟨k, n, k, v, false⟩ : Rc).gone = false := rfl
      refine List.mem_map.mpr ⟨rowsAt (ordd xs) ⟨k, n, k, v, false⟩, there_mem.mpr ⟨?_, ?_⟩, by rw [rowsAt_key]; rfl⟩
      · unfold rows
        exact List.mem_map.mpr ⟨_, List.mem_filterMap.mpr ⟨_, mem_ordd.mpr hx, rfl⟩, rfl⟩
      · rw [Bool.eq_false_iff]
        intro z
        exact nd ((goneD _ sg).mp z)
    | name _ _ _ => cases nw
    | worth _ _ _ => cases nw
    | drop _ _ => cases nw
/-- what is told of a deed -/
def tellOf : Dd → Option (Bool × Ky)
  | .new k _ _ => some (true, k)
  | .drop _ a => some (false, a)
  | _ => none
def tD (p : Bool × Ky) : D := .tup [.str (if p.1 = true then "made" else "dropped"), Ky.d p.2]
theorem tell_made {E : List Dd} {k : Ky} : (true, k) ∈ E.filterMap tellOf ↔ ∃ x, x ∈ E ∧ isNew x = true ∧ x.key = k := by
  rw [List.mem_filterMap]
  constructor
  · rintro ⟨x, hx, e⟩
    cases x <;> simp [tellOf] at e
    exact ⟨_, hx, rfl, e⟩
  · rintro ⟨x, hx, nw, rfl⟩
    cases x with
    | new k n v => exact ⟨_, hx, rfl⟩
    | name _ _ _ => cases nw
    | worth _ _ _ => cases nw
    | drop _ _ => cases nw
theorem tell_dropped {E : List Dd} {k : Ky} : (false, k) ∈ E.filterMap tellOf ↔ ∃ x, x ∈ E ∧ isDrop x = true ∧ x.at_ = some k := by
  rw [List.mem_filterMap]
  constructor
  · rintro ⟨x, hx, e⟩
    cases x <;> simp [tellOf] at e
    exact ⟨_, hx, rfl, by rw [Dd.at_, e]⟩
  · rintro ⟨x, hx, nw, e⟩
    cases x with
    | drop k a =>
      cases e
      exact ⟨_, hx, rfl⟩
    | name _ _ _ => cases nw
    | worth _ _ _ => cases nw
    | new _ _ _ => cases nw
noncomputable def leftK (E : List Dd) : List Ky := ((E.filterMap tellOf).filter fun p => p.1 && !decide ((false, p.2) ∈ E.filterMap tellOf)).map (·.2)
theorem leftK_nodup {E : List Dd} (dd : Deeds E) : (leftK E).Nodup := by
  have h1 : (((E.filterMap tellOf).filter fun p => p.1).map (·.2)).Nodup := by
    have e : ((E.filterMap tellOf).filter fun p => p.1).map (·.2) = (E.filter isNew).map Dd.key := by
      clear dd
      induction E with
      | nil => rfl
      | cons x E ih =>
        cases x with
        | new k n v =>
          rw [show (Dd.new k n v :: E).filterMap tellOf = (true, k) :: E.filterMap tellOf from rfl, List.filter_cons_of_pos rfl, List.filter_cons_of_pos rfl, List.map_cons, List.map_cons, ih]
          rfl
        | name k a n => rw [List.filterMap_cons_none rfl, List.filter_cons_of_neg (by simp [isNew]), ih]
        | worth k a n => rw [List.filterMap_cons_none rfl, List.filter_cons_of_neg (by simp [isNew]), ih]
        | drop k a =>
          rw [show (Dd.drop k a :: E).filterMap tellOf = (false, a) :: E.filterMap tellOf from rfl, List.filter_cons_of_neg (by simp), List.filter_cons_of_neg (by simp [isNew]), ih]
    rw [e]
    exact ((List.filter_sublist).map Dd.key).nodup dd.nd
  refine List.Sublist.nodup ?_ h1
  unfold leftK
  refine List.Sublist.map _ ?_
  have e9 : ((E.filterMap tellOf).filter fun p => p.1 && !decide ((false, p.2) ∈ E.filterMap tellOf)) = ((E.filterMap tellOf).filter fun p => p.1).filter fun p => !decide ((false, p.2) ∈ E.filterMap tellOf) := by
    rw [List.filter_filter]
    congr 1
    funext p
    exact Bool.and_comm _ _
  rw [e9]
  exact List.filter_sublist
theorem leftK_mem {E : List Dd} {k : Ky} : k ∈ leftK E ↔ k ∈ (there E).map Rc.key := by
  rw [there_iff, ← tell_made, ← tell_dropped]
  unfold leftK
  rw [List.mem_map]
  constructor
  · rintro ⟨⟨b, k'⟩, h, rfl⟩
    obtain ⟨m, e⟩ := List.mem_filter.mp h
    simp only [Bool.and_eq_true, Bool.not_eq_true', decide_eq_false_iff_not] at e
    obtain ⟨rfl, e⟩ := e
    exact ⟨m, e⟩
  · rintro ⟨h1, h2⟩
    exact ⟨(true, k), List.mem_filter.mpr ⟨h1, by simp [h2]⟩, rfl⟩
end NF
namespace NF
open PySem L2 PySem.W PyProof.Rows

theorem rle_since {a b : Rc} (e : a.name = b.name) (ne : b.since ≠ a.since) : rle a b = kle a.since b.since := by
  unfold rle ple rkey kle
  rw [dataLt_tuple, dataLt_all_yes (by simp [alike]) (by rw [e]; simp [PyData.eqv])]
  have es : PyData.eqv (.tuple [.int b.since.1, .int b.since.2]) (.tuple [.int a.since.1, .int a.since.2]) = false := by
    cases z : PyData.eqv (.tuple [.int b.since.1, .int b.since.2]) (.tuple [.int a.since.1, .int a.since.2]) with
    | false => rfl
    | true =>
      have := (D.eqv_py (Ky.d b.since) (Ky.d a.since) eqk_key.1 eqk_key.1).mp (by rw [py_ky, py_ky]; exact z)
      simp only [D.tup.injEq, List.cons.injEq, D.int.injEq, and_true] at this
      exact absurd (Prod.ext this.1 this.2) ne
  rw [dataLt_all_no (by simp [alike, alikeAll]) es, dataLt_ii]
theorem shownFrom_at (r : Rc) (l2 : List Rc) : ∀ (l1 p : List Rc), (shownAt (p ++ l1) r, r) ∈ shownFrom p (l1 ++ r :: l2)
  | [], p => by
    rw [List.append_nil, List.nil_append]
    unfold shownFrom
    exact List.mem_cons_self ..
  | q :: l1, p => by
    rw [List.cons_append]
    unfold shownFrom
    refine List.mem_cons_of_mem _ ?_
    have := shownFrom_at r l2 l1 (p ++ [q])
    rw [List.append_assoc] at this
    exact this
noncomputable def rivalsOf (E : List Dd) (r : Rc) : List Rc := (there E).filter fun q => decide (q.name = r.name) && HT.lexLt [q.since.1, q.since.2] [r.since.1, r.since.2]
theorem kle_or {a b : Ky} (ne : a ≠ b) : kle a b = true ↔ klt a b := by
  rw [kle_iff]
  unfold klt
  constructor
  · rintro (h | ⟨h1, h2⟩)
    · exact .inl h
    · refine .inr ⟨h1, ?_⟩
      have : a.2 ≠ b.2 := fun z => ne (Prod.ext h1 z)
      omega
  · rintro (h | ⟨h1, h2⟩)
    · exact .inl h
    · exact .inr ⟨h1, by omega⟩
theorem nodup_of_map {α β : Type} {f : α → β} : ∀ {l : List α}, (l.map f).Nodup → l.Nodup
  | [], _ => List.nodup_nil
  | a :: l, h => by
    rw [List.map_cons, List.nodup_cons] at h
    exact List.nodup_cons.mpr ⟨fun m => h.1 (List.mem_map.mpr ⟨a, m, rfl⟩), nodup_of_map h.2⟩
theorem rivals_at {E : List Dd} (g : Good E) {r : Rc} {l1 l2 : List Rc} (e : there E = l1 ++ r :: l2) : rivalsOf E r = l1.filter fun q => decide (q.name = r.name) := by
  have hr : r ∈ there E := by rw [e]; simp
  have nd : (there E).Nodup := nodup_of_map (there_kn g)
  have so := there_sorted E
  have rw_ : ∀ q, q ∈ there E → q ∈ rows E := fun q hq => (there_mem.mp hq).1
  unfold rivalsOf
  rw [e] at nd so ⊢
  rw [List.nodup_append] at nd
  rw [List.pairwise_append] at so
  have nr : ∀ q, q ∈ l1 → q.since ≠ r.since := fun q hq z => nd.2.2 q hq r (List.mem_cons_self ..) (rows_since g (rw_ q (by rw [e]; simp [hq])) (rw_ r hr) z)
  have nr2 : ∀ q, q ∈ l2 → q.since ≠ r.since := fun q hq z => by
    have := rows_since g (rw_ q (by rw [e]; simp [hq])) (rw_ r hr) z
    rw [this] at hq
    exact (List.nodup_cons.mp nd.2.1).1 hq
  have le1 : ∀ q, q ∈ l1 → rle q r = true := fun q hq => so.2.2 q hq r (List.mem_cons_self ..)
  have le2 : ∀ q, q ∈ l2 → rle r q = true := fun q hq => (List.pairwise_cons.mp so.2.1).1 q hq
  have z2 : (l2.filter fun q => decide (q.name = r.name) && HT.lexLt [q.since.1, q.since.2] [r.since.1, r.since.2]) = [] := by
    rw [List.filter_eq_nil_iff]
    intro q hq z
    simp only [Bool.and_eq_true, decide_eq_true_eq] at z
    have h1 := lexLt_klt.mp z.2
    have h2 := le2 q hq
    rw [rle_since z.1.symm (nr2 q hq), kle_iff] at h2
    unfold klt at h1
    omega
  rw [List.filter_append, List.filter_cons_of_neg ?_, z2, List.append_nil]
  · refine List.filter_congr fun q hq => ?_
    by_cases c : q.name = r.name
    · rw [decide_eq_true c, Bool.true_and]
      refine lexLt_klt.mpr ((kle_or (nr q hq)).mp ?_)
      rw [← rle_since c fun z => nr q hq z.symm]
      exact le1 q hq
    · rw [decide_eq_false c, Bool.false_and]
  · intro z
    simp only [decide_true, Bool.true_and] at z
    have := lexLt_klt.mp z
    unfold klt at this
    omega
theorem rivals {E : List Dd} (g : Good E) {r : Rc} (hr : r ∈ there E) : ∃ n, (n, r) ∈ shown (there E) ∧ (n = r.name ↔ rivalsOf E r = []) := by
  have len := there_len g
  obtain ⟨l1, l2, e⟩ := List.append_of_mem hr
  have rv := rivals_at g e
  refine ⟨shownAt l1 r, ?_, ?_⟩
  · unfold shown
    rw [e]
    exact shownFrom_at r l2 l1 []
  · rw [rv]
    have hc : (l1.filter fun s => decide (s.name = r.name)).length < 64 := by
      have h1 := List.length_filter_le (fun s => decide (s.name = r.name)) l1
      rw [e, List.length_append] at len
      omega
    have okn := (there_ok g hr).2.1
    unfold shownAt
    constructor
    · intro h
      have h2 : shownAs r.name (l1.filter fun s => decide (s.name = r.name)).length = shownAs r.name 0 := by rw [h]; unfold shownAs; rw [if_pos rfl]
      have := (shownAs_inj okn okn hc (by decide) h2).2
      exact List.length_eq_zero_iff.mp this
    · intro h
      rw [h]
      unfold shownAs
      rw [List.length_nil, if_pos rfl]
theorem shown_of {E : List Dd} (g : Good E) {p q : Sh} (hp : p ∈ shown (there E)) (hq : q ∈ shown (there E)) (e : p.2.key = q.2.key) : p = q := by
  have h1 := find_uniq (f := fun p : Sh => p.2.key) (there_keys g) hp rfl
  have h2 := find_uniq (f := fun p : Sh => p.2.key) (there_keys g) hq rfl
  rw [e] at h1
  exact Option.some.inj (h1.symm.trans h2)
theorem in_tab {E : List Dd} (g : Good E) {r : Rc} (hr : r ∈ there E) {l : List Sh} (hl : ∀ p, p ∈ l ↔ p ∈ shown (there E)) : ((l.map tri).any fun z => D.eqb z (.tup [.str r.name, Ky.d r.key, .int r.worth])) = (rivalsOf E r).isEmpty := by
  obtain ⟨n, m, iff⟩ := rivals g hr
  rw [List.any_map, Bool.eq_iff_iff, List.any_eq_true, List.isEmpty_iff, ← iff]
  constructor
  · rintro ⟨p, hp, e⟩
    have e2 : tri p = .tup [.str r.name, Ky.d r.key, .int r.worth] := D.eqb_true.mp e
    simp only [tri, D.tup.injEq, List.cons.injEq, D.str.injEq, D.int.injEq, and_true] at e2
    have := shown_of g ((hl p).mp hp) m (Prod.ext e2.2.1.1 e2.2.1.2)
    rw [this] at e2
    exact e2.1
  · intro h
    refine ⟨(n, r), (hl _).mpr m, ?_⟩
    show D.eqb (tri (n, r)) _ = true
    rw [h]
    exact D.eqb_true.mpr rfl
theorem in_fell {E : List Dd} (g : Good E) {r : Rc} (hr : r ∈ there E) : ((((fellK E).map Ky.d).mergeSort dle).any fun z => D.eqb z (Ky.d r.key)) = !(rivalsOf E r).isEmpty := by
  obtain ⟨n, m, iff⟩ := rivals g hr
  rw [Bool.eq_iff_iff, List.any_eq_true, Bool.not_eq_true', Bool.eq_false_iff, ne_eq, List.isEmpty_iff, ← iff]
  constructor
  · rintro ⟨d, hd, e⟩ h
    have h1 := (List.mergeSort_perm _ _).mem_iff.mp hd
    obtain ⟨k, hk, rfl⟩ := List.mem_map.mp h1
    unfold fellK at hk
    obtain ⟨p, hp, rfl⟩ := List.mem_map.mp hk
    obtain ⟨m1, m2⟩ := List.mem_filter.mp hp
    rw [eqb_key] at e
    have := shown_of g m1 m (of_decide_eq_true e)
    rw [this] at m2
    simp [h] at m2
  · intro h
    refine ⟨Ky.d r.key, (List.mergeSort_perm _ _).mem_iff.mpr (List.mem_map.mpr ⟨r.key, ?_, rfl⟩), by rw [eqb_key]; simp⟩
    unfold fellK
    exact List.mem_map.mpr ⟨(n, r), List.mem_filter.mpr ⟨m, by simpa using h⟩, rfl⟩
/-- when two have met -/
structure MeetR (E : List Dd) (cs : List Cp) (i j : Nat) (s r : Cp) (cs' : List Cp) : Prop where
  ws : Ws E cs'
  as : cs'.map Cp.a = cs.map Cp.a
  mono : ∀ (k : Nat) u u', cs[k]? = some u → cs'[k]? = some u' → ∀ x, x ∈ u.xs → x ∈ u'.xs
  ii : ∀ u', cs'[i]? = some u' → ∀ x, x ∈ s.xs ∨ x ∈ r.xs → x ∈ u'.xs
  jj : ∀ u', cs'[j]? = some u' → ∀ x, x ∈ s.xs ∨ x ∈ r.xs → x ∈ u'.xs
theorem set_a {cs : List Cp} {i : Nat} {s s' : Cp} (hs : cs[i]? = some s) (e : s'.a = s.a) : (cs.set i s').map Cp.a = cs.map Cp.a := by
  have hi := (List.getElem?_eq_some_iff.mp hs).1
  rw [List.map_set]
  refine List.ext_getElem? fun j => ?_
  rw [List.getElem?_set]
  split
  · rename_i z
    subst z
    rw [List.length_map, if_pos hi, List.getElem?_map, hs, e]
    rfl
  · rfl
theorem Ws.meet {E : List Dd} {cs : List Cp} (ws : Ws E cs) {i j : Nat} {s r : Cp} (hs : cs[i]? = some s) (hr : cs[j]? = some r) {st1 st2 : Int} (c1 : Cw E (joinC s r st1)) (c2 : Cw E (joinC r s st2)) : MeetR E cs i j s r ((cs.set i (joinC s r st1)).set j (joinC r s st2)) := by
  have hi := (List.getElem?_eq_some_iff.mp hs).1
  have hj := (List.getElem?_eq_some_iff.mp hr).1
  have w1 := ws.set hs c1 rfl
  have a1 := set_a (s' := joinC s r st1) hs rfl
  obtain ⟨u, hu, uh, ua⟩ : ∃ u, (cs.set i (joinC s r st1))[j]? = some u ∧ u.h = r.h ∧ u.a = r.a := by
    rw [List.getElem?_set]
    by_cases z : i = j
    · subst z
      rw [hs] at hr
      cases hr
      exact ⟨joinC s s st1, by rw [if_pos rfl, if_pos hi], rfl, rfl⟩
    · exact ⟨r, by rw [if_neg z]; exact hr, rfl, rfl⟩
  have at_ : ∀ k, ((cs.set i (joinC s r st1)).set j (joinC r s st2))[k]? = if j = k then some (joinC r s st2) else if i = k then some (joinC s r st1) else cs[k]? := fun k => by
    rw [List.getElem?_set, List.length_set, List.getElem?_set]
    by_cases z : j = k
    · rw [if_pos z, if_pos z, if_pos hj]
    · rw [if_neg z, if_neg z]
      by_cases y : i = k
      · rw [if_pos y, if_pos y, if_pos hi]
      · rw [if_neg y, if_neg y]
  refine ⟨w1.set hu c2 uh.symm, (set_a hu (by rw [ua]; rfl)).trans a1, fun k v v' hv hv' x hx => ?_, fun v hv x hx => ?_, fun v hv x hx => ?_⟩
  · rw [at_] at hv'
    split at hv'
    · rename_i z
      subst z
      rw [hr] at hv
      cases hv
      cases hv'
      exact mem_join.mpr (.inl hx)
    · split at hv'
      · rename_i z
        subst z
        rw [hs] at hv
        cases hv
        cases hv'
        exact mem_join.mpr (.inl hx)
      · rw [hv] at hv'
        cases hv'
        exact hx
  · rw [at_] at hv
    split at hv
    · cases hv
      exact mem_join.mpr hx.symm
    · rw [if_pos rfl] at hv
      cases hv
      exact mem_join.mpr hx
  · rw [at_, if_pos rfl] at hv
    cases hv
    exact mem_join.mpr hx.symm
def aNeB : AR2 := fun x y M Φ => ∃ a b, x = .bl a ∧ y = .bl b ∧ Φ (.bl (!decide (a = b))) M
theorem o_neB {X : Cx} : OpR X (compareOp .NotEq) (rOf X.K aNeB) := OpR.weak op_ne fun x y H Q ⟨dx, dy, M, P, Φ, r1, r2, s, ⟨a, b, e1, e2, h⟩, q⟩ => by
  subst e1 e2
  cases r1; cases r2
  have z := q.here s h (.bl _)
  exact ⟨by first | rfl | trivial, by
    have e : decide (V.bl a = V.bl b) = decide (a = b) := by congr 1; simp
    first
      | (rw [e]; exact z)
      | (simp only [ne_eq, decide_not, e]; exact z)⟩
theorem deepAll_le {l : List D} {n : Nat} (h : ∀ d, d ∈ l → D.deep d ≤ n) : D.deepAll l ≤ n := by
  induction l with
  | nil => simp [D.deepAll]
  | cons d l ih =>
    have h1 := h d (by simp)
    have h2 := ih fun e he => h e (by simp [he])
    simp only [D.deepAll]
    omega
theorem table_deep {xs : List Dd} (g : Good xs) : D.plain (tableD xs) = true ∧ D.deep (tableD xs) ≤ 60 := by
  refine ⟨(eqk_table g).1, ?_⟩
  unfold tableD
  simp only [D.deep]
  have : D.deepAll (((shown (there xs)).map tri).mergeSort dle) ≤ 2 := deepAll_le fun d hd => by
    obtain ⟨p, _, rfl⟩ := List.mem_map.mp ((List.mergeSort_perm _ _).mem_iff.mp hd)
    simp [tri, D.deep, D.deepAll]
  omega
theorem dds_deep {l : List Dd} (h : ∀ x, x ∈ l → x.ok) : D.plain (.lst (l.map Dd.d)) = true ∧ D.deep (.lst (l.map Dd.d)) ≤ 60 := by
  refine ⟨(eqk_dds h).1, ?_⟩
  simp only [D.deep]
  have : D.deepAll (l.map Dd.d) ≤ 59 := deepAll_le fun d hd => by
    obtain ⟨x, _, rfl⟩ := List.mem_map.mp hd
    cases x <;> simp [Dd.d, Dd.tl, D.deep, D.deepAll]
  omega
theorem wait_none {E : List Dd} {cs : List Cp} (ws : Ws E cs) : waitL (ordd E) = [] := by
  have g : Good E := ws.dd.good (by have := ws.few; omega)
  unfold waitL
  rw [ordd_ordd g, List.filter_eq_nil_iff]
  intro x hx
  obtain ⟨j, s, hs, hh⟩ := ws.home x (mem_ordd.mp hx)
  have c := ws.each j s hs
  have mx := c.own x (mem_ordd.mp hx) hh.symm
  unfold waitB
  cases e : x.at_ with
  | none => simp
  | some k =>
    obtain ⟨y, hy, ny, ky⟩ := c.cl x mx k e
    simp only [Bool.not_eq_true, Bool.not_eq_false', List.any_eq_true]
    exact ⟨y, mem_ordd.mpr (c.sub y hy), by simp [ny, ky]⟩
end NF
namespace NF
open PySem L2 PySem.Calls PyProof.Rows PySem.Spec

section
variable {prog : Program} {w : World} {K : Type} [DecidableEq K] {knd : HeapKind prog w K} {A : Around} {E : Value → Shared → Prop} {s : Shared}
/-- how the walk over the first dict's entries ends -/
inductive HitsH (prog : Program) (w : World) (A : Around) (s : Shared) (ys : List (K × Addr × Value)) : List (K × Addr × Value) → Bool → Prop
  | nil : HitsH prog w A s ys [] true
  | miss {x : K × Addr × Value} {r : List (K × Addr × Value)} : atKey ys x.1 = none → HitsH prog w A s ys (x :: r) false
  | hit {x : K × Addr × Value} {y : Addr × Value} {r : List (K × Addr × Value)} {e c : Bool} : atKey ys x.1 = some y → SeqAt.EqP prog w A s x.2.2 y.2 e → HitsH prog w A s ys r c → HitsH prog w A s ys (x :: r) (e && c)
theorem same_pairsH {nm : String} {d1 d2 : Addr} {xs ys : List (K × Addr × Value)} {r : Bool} {Q : Bool → Shared → Prop} (n1 : (d1 == sysModules) = false) (n2 : (d2 == sysModules) = false) (hu : knd.room A)
    (m1 : s.heap.DictOfH knd d1 xs) (m2 : s.heap.DictOfH knd d2 ys) (hits : xs.length = ys.length → HitsH prog w A s ys xs r) (hq : Q (xs.length == ys.length && r) s) :
    wpAny (model prog w) A (Builtin.Dict.samePairs nm d1 d2) Q E s := by
  obtain ⟨o1, es1, ep1, g1, _, t1, l1, is1, nd1⟩ := m1
  obtain ⟨o2, es2, ep2, g2, _, t2, l2, is2, nd2⟩ := m2
  have z1 : es1.size = xs.length := size_of_entries l1
  have z2 : es2.size = ys.length := size_of_entries l2
  rw [← z1, ← z2] at hq
  unfold Builtin.Dict.samePairs Builtin.Dict.showsAll
  rw [if_neg (show ¬ (d1 == sysModules) = true by rw [n1]; decide), if_neg (show ¬ (d2 == sysModules) = true by rw [n2]; decide)]
  refine wpAny_bind (wpAny_pure (wpAny_bind (wpAny_pure (wpAny_bind (wpAny_dictEntries g1 t1 ?_)))))
  dsimp only
  refine wpAny_bind (wpAny_dictEntries g2 t2 ?_)
  by_cases sz : es1.size = es2.size
  case neg =>
    have bf : (es1.size == es2.size) = false := by simpa using sz
    rw [if_pos (by simpa using sz)]
    rw [bf, Bool.false_and] at hq
    exact wpAny_bind (wpAny_rule (wpAny_pure hq))
  case pos =>
    have hq' : Q r s := by simpa [sz] using hq
    have ht := hits (by omega)
    rw [if_neg (by rw [sz]; simp)]
    refine wpAny_bind (wpAny_dictEpoch g1 t1 (wpAny_bind ?_))
    rw [Std.Legacy.Range.forIn_eq_forIn_range']
    simp only [Std.Legacy.Range.size, Nat.sub_zero, Nat.add_sub_cancel, Nat.div_one]
    refine wpAny_forIn_list _ (fun rest v s' => s' = s ∧ v = (none, ()) ∧ ∃ n, rest = List.range' n (es1.size - n) ∧ n ≤ es1.size ∧ HitsH prog w A s ys (xs.drop n) r) _ ?_ ?_ _ _ ⟨rfl, rfl, 0, by simp, Nat.zero_le _, ht⟩
    · rintro x rest v s' ⟨rfl, rfl, n, er, le, hh⟩
      have lt : n < es1.size := by
        rcases Nat.lt_or_ge n es1.size with z | z
        · exact z
        · rw [Nat.sub_eq_zero_of_le z] at er
          simp at er
      obtain ⟨rfl, erest⟩ : x = n ∧ rest = List.range' (n + 1) (es1.size - (n + 1)) := by
        have e : es1.size - n = (es1.size - (n + 1)) + 1 := by omega
        rw [e, List.range'_succ] at er
        injection er with a1 a2
        exact ⟨a1, a2⟩
      refine wpAny_bind (wpAny_dictEntries g1 t1 ?_)
      have lt' : x < xs.length := by omega
      have ee : es1[x]? = some (entryOfKey knd xs[x]) := by rw [entry_at l1, List.getElem?_eq_getElem lt']; rfl
      rw [ee]
      have dr : xs.drop x = xs[x] :: xs.drop (x + 1) := List.drop_eq_getElem_cons lt'
      rw [dr] at hh
      have ki := is1 xs[x] (List.getElem_mem lt')
      show wpAny _ _ (holding [(entryOfKey knd xs[x]).key, (entryOfKey knd xs[x]).val] _ >>= _) _ _ _
      refine wpAny_bind (wpAny_holding (wpAny_bind (wpAny_dictFind_heap hu ki g2 t2 l2 is2 nd2 (fun no => ?_) (fun j p yes => ?_))))
      · have an : atKey ys xs[x].1 = none := atKey_none_of_get no
        generalize xs[x] = q at hh an
        cases hh with
        | miss _ =>
          refine wpAny_pure ?_
          show wpAny _ _ (if (!false) = true then _ else _) _ _ _
          rw [if_pos (by decide)]
          exact wpAny_pure (wpAny_pure hq')
        | hit hy _ _ => rw [an] at hy; cases hy
      · have ay : atKey ys xs[x].1 = some p := atKey_of_get nd2 yes
        have ef : es2[j]? = some (entryOfKey knd (xs[x].1, p)) := by rw [entry_at l2, yes]; rfl
        refine wpAny_bind (wpAny_dictEntries g2 t2 ?_)
        rw [ef]
        generalize eq : xs[x] = q at hh ay
        cases hh with
        | miss hn => rw [ay] at hn; cases hn
        | @hit _ y _ e c hy he hr =>
          rw [ay] at hy
          cases hy
          refine wpAny_holding (he _ _ ?_)
          cases e with
          | false =>
            show wpAny _ _ (if (!false) = true then _ else _) _ _ _
            rw [if_pos (by decide)]
            exact wpAny_pure (wpAny_pure hq')
          | true =>
            show wpAny _ _ (if (!true) = true then _ else _) _ _ _
            rw [if_neg (by decide)]
            refine wpAny_bind (wpAny_dictEpoch g1 t1 ?_)
            rw [if_neg (by simp)]
            exact wpAny_pure ⟨rfl, rfl, x + 1, erest, lt, by simpa using hr⟩
    · rintro v s' ⟨rfl, rfl, n, er, le, hh⟩
      have e : n = es1.size := by
        rcases Nat.lt_or_ge n es1.size with z | z
        · have y : es1.size - n = (es1.size - (n + 1)) + 1 := by omega
          rw [y, List.range'_succ] at er
          cases er
        · exact Nat.le_antisymm le z
      refine wpAny_pure ?_
      rw [e, z1, List.drop_length] at hh
      cases hh
      exact hq'
theorem eq_dictsH {d1 d2 : Addr} {xs ys : List (K × Addr × Value)} {r : Bool} (n1 : (d1 == sysModules) = false) (n2 : (d2 == sysModules) = false) (hk : knd.room A.in1) (m1 : s.heap.DictOfH knd d1 xs) (m2 : s.heap.DictOfH knd d2 ys) (hu : A.units < cLine)
    (hits : xs.length = ys.length → HitsH prog w A.in1 s ys xs r) (E Q : Value → Shared → Prop) (hq : Q (.bool (xs.length == ys.length && r)) s) : wpAny (model prog w) A (richCompare .Eq (.ref d1) (.ref d2)) Q E s := by
  refine wpAny_richCompare_same_room (op := .Eq) m1.typeIs m2.typeIs PySem.F.slot_dict_eq (wpAny_call_entry PySem.F.slot_dict_eq m1.typeIs PySem.F.entry_dict_eq ?_ (PySem.F.args_dict_eq_2 _ _)) hu
  show wpAny _ _ (Builtin.Dict.dictSlotArgs "__eq__" ⟨[.ref d1, .ref d2], []⟩ >>= _) _ _ s
  unfold Builtin.Dict.dictSlotArgs
  refine wpAny_bind (wpAny_bind (wpAny_notOrdered_dict m1.typeIs ?_))
  show wpAny _ _ (pure (Value.ref d1, Value.ref d2)) _ _ s
  refine wpAny_pure (wpAny_bind (wpAny_isInstance (T := "dict") m2.typeIs PySem.F.sub_dict_dict ?_))
  simp only [Bool.not_true, Bool.false_eq_true, if_false]
  refine wpAny_bind (wpAny_pure (wpAny_bind (wpAny_pure (wpAny_bind (same_pairsH n1 n2 hk m1 m2 hits (wpAny_pure ⟨_, rfl, (fun x => nomatch x), ?_⟩))))))
  simpa using hq
end
noncomputable def dicEqB (k1 k2 : List (List Key × D)) : Bool := (k1.length == k2.length) && k1.all fun p => match lookA k2 p.1 with | none => false | some v => D.eqb p.2 v
noncomputable def aEqDic : AR2 := fun x y M Φ => ∃ k1 k2, DicOf M x k1 ∧ DicOf M y k2 ∧ (∀ p, p ∈ k1 → D.eqOk p.2) ∧ (∀ p, p ∈ k2 → D.eqOk p.2) ∧ Φ (.bl (dicEqB k1 k2)) M
theorem lookA_mem {kvs : List (List Key × D)} {k : List Key} {d : D} (h : lookA kvs k = some d) : ∃ p, p ∈ kvs ∧ p.2 = d := by
  unfold lookA at h
  obtain ⟨p, hp, e⟩ := Option.map_eq_some_iff.mp h
  exact ⟨p, List.mem_of_find?_eq_some hp, e⟩
section
variable {X : Cx}
theorem hits_data {pins : List (Addr × Obj)} {σ : L2.St} {P H : Hp} {M : Mp} {s : Shared} {A : Around} (I : L2.Inv X pins σ H s) (sa : Sat X.K P M H) (hu : A.units + 64 < cLine) {vs2 : List (List Key × V)} {k2 : List (List Key × D)} {ys : List (List Key × Addr × Value)} (r2 : KRep X.K P vs2 k2) (t2 : KT H vs2 ys) (ok2 : ∀ p, p ∈ k2 → D.eqOk p.2) :
    ∀ {vs1 : List (List Key × V)} {k1 : List (List Key × D)} {xs : List (List Key × Addr × Value)}, KRep X.K P vs1 k1 → KT H vs1 xs → (∀ p, p ∈ k1 → D.eqOk p.2) → HitsH X.prog X.w A s ys xs (k1.all fun p => match lookA k2 p.1 with | none => false | some v => D.eqb p.2 v)
  | _, _, _, .nil, t1, _ => by
    cases t1
    exact .nil
  | _, _, _, .cons (a := v) (b := d) r1 rt, t1, ok1 => by
    cases t1 with
    | @cons _ x _ xs' hx t1 =>
      have ih := hits_data I sa hu r2 t2 ok2 rt t1 fun p hp => ok1 p (List.mem_cons_of_mem _ hp)
      have ek : d.1 = x.1 := r1.1.symm.trans hx.1
      have rv := t2.val x.1
      rw [List.all_cons]
      cases el : lookA k2 d.1 with
      | none =>
        have en := r2.look.2 el
        rw [ek] at en
        rw [en] at rv
        have an : atKey ys x.1 = none := Option.map_eq_none_iff.mp (RelO.none_of rv)
        rw [Bool.false_and]
        exact .miss an
      | some e =>
        obtain ⟨u, hu2, ru⟩ := r2.look.1 e el
        rw [ek] at hu2
        rw [hu2] at rv
        obtain ⟨y, hy, ry⟩ : ∃ y, atKey ys x.1 = some y ∧ RelV u y.2 := by
          cases ay : atKey ys x.1 with
          | none => rw [ay] at rv; exact rv.elim
          | some y => rw [ay] at rv; exact ⟨y, rfl, rv⟩
        have o1 := ok1 d (List.mem_cons_self ..)
        obtain ⟨q, hq, eq⟩ := lookA_mem el
        have o2 : D.eqOk e := eq ▸ ok2 q hq
        obtain ⟨as, g1⟩ := Dp.reads I (D.py d.2) v.2 x.2.2 (dp_up sa.sub _ _ (D.rep_py _ _ o1.1 r1.2)) hx.2.2
        obtain ⟨bs, g2⟩ := Dp.reads I (D.py e) u y.2 (dp_up sa.sub _ _ (D.rep_py _ _ o2.1 ru)) ry
        have ea := SeqAt.eqAt_reads (D.py d.2) (D.py e) A s x.2.2 y.2 as bs g1 g2 (SeqAt.canLay_of_shaped o1.shaped) (SeqAt.canLay_of_shaped o2.shaped) (by have := SeqAt.depth_of_shaped o1.shaped; omega)
        rw [D.eqb_py o1 o2] at ea
        exact .hit hy ea.eqP ih
theorem o_eqDic (hu : X.A.units + 65 < cLine) : OpR X (compareOp .Eq) (rOf X.K aEqDic) := by
  intro pins s σ H x y v u Q I rx ry ⟨dx, dy, M, P, Φ, r1, r2, sa, ⟨k1, k2, n1, n2, o1, o2, h⟩, q⟩
  obtain ⟨a, vs1, rfl, ha, kr1⟩ := n1.rd sa r1
  obtain ⟨b, vs2, rfl, hb, kr2⟩ := n2.rd sa r2
  cases (show v = Value.ref a from rx)
  cases (show u = Value.ref b from ry)
  obtain ⟨_, s1, xs, t1, m1⟩ := dt_rd I.hok ha
  obtain ⟨_, s2, ys, t2, m2⟩ := dt_rd I.hok hb
  have l1 : xs.length = k1.length := by rw [← kr1.length]; exact (Paired.length t1).symm
  have l2 : ys.length = k2.length := by rw [← kr2.length]; exact (Paired.length t2).symm
  refine eq_dictsH s1 s2 (tupleKind_room_in1 (by omega)) m1 m2 (by omega) (fun _ => hits_data (A := X.A.in1) I sa (by show X.A.units + 1 + 64 < cLine; omega) kr2 t2 o2 kr1 t1 o1) _ _ ⟨.bl (dicEqB k1 k2), H, I, ?_, q.here sa h (.bl _)⟩
  show Value.bool _ = Value.bool _
  unfold dicEqB
  rw [l1, l2]
end
end NF
namespace NF
open PySem L2 PyProof.Rows PySem.Spec

theorem stored_all {K : Type} [DecidableEq K] : ∀ (ps acc : List (K × Addr × Value)), ((acc ++ ps).map (·.1)).Nodup → PySem.storedAllH acc ps = acc ++ ps
  | [], acc, _ => by simp [PySem.storedAllH]
  | p :: ps, acc, nd => by
    have no : atKey acc p.1 = none := by
      refine atKey_none_of_get fun j q hq => ?_
      rw [List.map_append, List.nodup_append] at nd
      exact nd.2.2 p.1 (List.mem_map.mpr ⟨(p.1, q), List.mem_of_getElem? hq, rfl⟩) p.1 (by simp) rfl
    show PySem.storedAllH (storedH acc p.1 p.2.1 p.2.2) ps = _
    rw [storedH_new no, stored_all ps (acc ++ [p]) (by simpa using nd)]
    simp
section
variable {X : Cx}
theorem dict_src {pins : List (Addr × Obj)} {σ : L2.St} {P H : Hp} {M : Mp} {s : Shared} (I : L2.Inv X pins σ H s) (sa : Sat X.K P M H) : ∀ {us : List V} {kvs : List (List Key × D)}, RepAll X.K P us (kvs.map fun p => .tup [keyT p.1, p.2]) →
    ∃ (ts : List Addr) (vs : List (List Key × V)) (ps : List (List Key × Addr × Value)), us = ts.map V.ref ∧ KRep X.K P vs kvs ∧ KT H vs ps ∧ ts.length = ps.length ∧ ∀ (j : Nat) p, ps[j]? = some p → ∃ T, ts[j]? = some T ∧ IsTup s.heap T #[.ref p.2.1, p.2.2]
  | _, [], h => by
    cases h
    exact ⟨[], [], [], rfl, .nil, .nil, rfl, fun j p e => by simp at e⟩
  | _, kv :: kvs, h => by
    cases h with
    | cons h1 h2 =>
      obtain ⟨ts, vs, ps, rfl, kr, kt, lt, hi⟩ := dict_src I sa h2
      cases h1 with
      | @tup T zs _ t al =>
        cases al with
        | @cons x _ _ _ a1 al =>
          cases al with
          | @cons y _ _ _ a2 al =>
            cases al
            obtain ⟨b, rfl, hb⟩ := key_at sa a1
            obtain ⟨its, rv, ht, _⟩ := I.tuple (SqT.of (sa.sub.tup t))
            obtain ⟨u1, u2, ei, r1, r2⟩ := vals2 rv
            subst ei
            cases (show u1 = Value.ref b from r1)
            refine ⟨T :: ts, (kv.1, y) :: vs, (kv.1, b, u2) :: ps, rfl, .cons ⟨rfl, a2⟩ kr, .cons ⟨rfl, hb, r2⟩ kt, by simp [lt], fun j p e => ?_⟩
            cases j with
            | zero =>
              cases e
              exact ⟨T, rfl, ht⟩
            | succ j => exact hi j p (by simpa using e)
theorem zip_parts {α β : Type} : ∀ l : List (α × β), (l.map (·.1)).zip (l.map (·.2)) = l
  | [] => rfl
  | p :: l => by simp [zip_parts l]
theorem krep_fst {K : PySem.W.Frag} {P : Hp} : ∀ {vs : List (List Key × V)} {kvs : List (List Key × D)}, KRep K P vs kvs → vs.map (·.1) = kvs.map (·.1)
  | _, _, .nil => rfl
  | _, _, .cons r t => by rw [List.map_cons, List.map_cons, krep_fst t, r.1]
theorem krep_snd {K : PySem.W.Frag} {P : Hp} : ∀ {vs : List (List Key × V)} {kvs : List (List Key × D)}, KRep K P vs kvs → RepAll K P (vs.map (·.2)) (kvs.map (·.2))
  | _, _, .nil => .nil
  | _, _, .cons r t => .cons r.2 (krep_snd t)
theorem kt_fst {H : Hp} : ∀ {vs : List (List Key × V)} {ps : List (List Key × Addr × Value)}, KT H vs ps → vs.map (·.1) = ps.map (·.1)
  | _, _, .nil => rfl
  | _, _, .cons r t => by rw [List.map_cons, List.map_cons, kt_fst t, r.1]
theorem kt_keys {H : Hp} {Q : List Key → Addr → Prop} (hq : ∀ k b, H b = some (.tup (k.map kV)) → Q k b) : ∀ {vs : List (List Key × V)} {ps : List (List Key × Addr × Value)}, KT H vs ps → ∀ x, x ∈ ps → Q x.1 x.2.1
  | _, _, .nil, x, h => by cases h
  | _, _, .cons (a := p) (b := q) r t, x, h => by
    rcases List.mem_cons.mp h with z | z
    · rw [z]
      have := hq _ _ r.2.1
      rw [r.1] at this
      exact this
    · exact kt_keys hq t x z
def aDict : ARC := fun ds M Φ => ∃ (d : D) (kvs : List (List Key × D)), ds = [d] ∧ Now M d (.lst (kvs.map fun p => .tup [keyT p.1, p.2])) ∧ (kvs.map (·.1)).Nodup ∧ Φ (.dic (kvs.map (·.1)) (kvs.map (·.2))) M
theorem c_dict (hc : X.calm = true) (hu : X.A.units + 2 < cLine) : CallR X (.type "dict") (cOf X.K aDict) := by
  intro pins s σ H vs us Q I r ⟨ds, M, P, Φ, ra, sa, ⟨d, kvs, e, nw, nd, h⟩, q⟩
  subst e
  obtain ⟨v, rfl, r1⟩ := ra.one'
  obtain ⟨b, ws, rfl, hb, hw⟩ := nw.sqL sa r1
  obtain ⟨u, rfl, ru⟩ := vals1 r
  cases (show u = Value.ref b from ru)
  obtain ⟨ts, vs, ps, rfl, kr, kt, lt, hi⟩ := dict_src I sa hw
  obtain ⟨its, rv, pl, hz⟩ := I.list (SqL.of hb)
  have ei := refs_at rv
  subst ei
  rw [List.length_map] at hz
  obtain ⟨o, n, ho, hcl, hd, hdat⟩ := pl
  have lp : vs.length = ps.length := paired_len kt
  have ndp : (ps.map (·.1)).Nodup := by rw [← kt_fst kt, krep_fst kr]; exact nd
  have keyIs : ∀ x, x ∈ ps → (tupleKind (mixKind X.prog X.w)).is s.heap x.1 x.2.1 := kt_keys (Q := fun k a => (tupleKind (mixKind X.prog X.w)).is s.heap k a) (fun k b e => key_of I.hok e) kt
  refine PySem.call_dict_pairsH (knd := tupleKind (mixKind X.prog X.w)) (ps := ps) (PySem.PairArg.list b (ts.map Value.ref).toArray (fun j => ts.getD j 0) (ps.map fun p => (Value.ref p.2.1, p.2.2))) (I.ok.hd hc) ?_ ⟨⟨o, n, ho, hcl, hd, hdat⟩, ?_, fun j k v e => ?_⟩ ⟨by simp, fun j k v e => ?_⟩ (fun h' keep x hx => ?_) ?_ fun h' tk hd' keep => ?_
  · show X.A.units + 1 + 1 < cLine
    omega
  · simp [lt]
  · rw [List.getElem?_map] at e
    obtain ⟨p, hp, ep⟩ := Option.map_eq_some_iff.mp e
    cases ep
    obtain ⟨T, hT, isT⟩ := hi j p hp
    have eg : ts.getD j 0 = T := by rw [List.getD_eq_getElem?_getD, hT]; rfl
    dsimp only
    rw [eg]
    exact ⟨by simp [hT], .inl isT⟩
  · rw [PySem.PairRel, List.getElem?_map] at e
    obtain ⟨p, hp, ep⟩ := Option.map_eq_some_iff.mp e
    cases ep
    exact ⟨p.1, p.2.1, hp, rfl⟩
  · obtain ⟨ob, it, n', e1, rest⟩ := keyIs x hx
    exact ⟨ob, it, n', keep _ _ (Nat.ne_of_lt (Heap.lt_size e1)) (by simp) e1, rest⟩
  · rw [List.length_map, ← lt]
    exact hz
  · rw [stored_all ps [] (by simpa using ndp), List.nil_append] at hd'
    have hm : (s.heap.objs.size == sysModules) = false := beq_eq_false_iff_ne.mpr (Nat.ne_of_gt I.big)
    have hf := I.hok.fresh (Nat.le_refl s.heap.objs.size)
    obtain ⟨q1, es, ep, hq1, h2, h3, h4, _, h5⟩ := hd'
    refine ⟨.ref s.heap.objs.size, upd H s.heap.objs.size (.dT vs), I.laid (t' := tk) (fun b' o' e' => keep b' o' (by simp) e') (Nat.le_refl _) (show ObjOk X.prog X.w _ _ _ (.dT vs) from ⟨by rw [lp, ← lt]; exact hz, hm, ps, kt.keeps fun c ys ec => ?_, q1, es, ep, hq1, h2, h3, h4, h5⟩), rfl, ?_⟩
    · rw [upd_ne (ne_of_none ec hf)]
      exact ec
    · have g := Grow.laid (o := .dT vs) sa hf
      refine q _ _ h _ _ _ g (.dic (vs := vs.map (·.2)) (.inl ?_) (by rw [← krep_fst kr, List.length_map, List.length_map]) ((krep_snd kr).up g.le))
      have ez : (kvs.map (·.1)).zip (vs.map (·.2)) = vs := by rw [← krep_fst kr]; exact zip_parts vs
      rw [ez]
      exact upd_same
end
end NF
namespace NF
open PySem L2
def top (i : Nat) : Stmt := PySem.Challenge.pw_namefall_k40_whole_reasons.main.body.getD i (.Pass ⟨0, 0, 0, 0⟩)
abbrev s_is_name : Stmt := top 16
abbrev N_is_name : List Str := ["name", "sign"]
theorem sc_is_name : FnScope N_is_name ["name"] (defScope s_is_name) := ⟨rfl, rfl, rfl, by decide +kernel, rfl, by decide +kernel, by decide +kernel⟩
abbrev s_is_worth : Stmt := top 17
abbrev N_is_worth : List Str := ["worth"]
theorem sc_is_worth : FnScope N_is_worth ["worth"] (defScope s_is_worth) := ⟨rfl, rfl, rfl, by decide +kernel, rfl, by decide +kernel, by decide +kernel⟩
abbrev s_is_key : Stmt := top 18
abbrev N_is_key : List Str := ["key"]
theorem sc_is_key : FnScope N_is_key ["key"] (defScope s_is_key) := ⟨rfl, rfl, rfl, by decide +kernel, rfl, by decide +kernel, by decide +kernel⟩
abbrev s_is_deed : Stmt := top 19
abbrev N_is_deed : List Str := ["deed"]
theorem sc_is_deed : FnScope N_is_deed ["deed"] (defScope s_is_deed) := ⟨rfl, rfl, rfl, by decide +kernel, rfl, by decide +kernel, by decide +kernel⟩
abbrev s_look_deeds : Stmt := top 20
abbrev N_look_deeds : List Str := ["deeds", "deed"]
theorem sc_look_deeds : FnScope N_look_deeds ["deeds"] (defScope s_look_deeds) := ⟨rfl, rfl, rfl, by decide +kernel, rfl, by decide +kernel, by decide +kernel⟩
abbrev s_in_order : Stmt := top 21
abbrev N_in_order : List Str := ["deeds", "found", "deed", "key"]
theorem sc_in_order : FnScope N_in_order ["deeds"] (defScope s_in_order) := ⟨rfl, rfl, rfl, by decide +kernel, rfl, by decide +kernel, by decide +kernel⟩
abbrev s_Row___init__ : Stmt := inClass (top 23) 0
abbrev N_Row___init__ : List Str := ["self", "key", "name", "worth"]
theorem sc_Row___init__ : FnScope N_Row___init__ ["self", "key", "name", "worth"] (defScope s_Row___init__) := ⟨rfl, rfl, rfl, by decide +kernel, rfl, by decide +kernel, by decide +kernel⟩
abbrev s_all_rows : Stmt := top 24
abbrev N_all_rows : List Str := ["deeds", "found", "row", "deed", "one"]
theorem sc_all_rows : FnScope N_all_rows ["deeds"] (defScope s_all_rows) := ⟨rfl, rfl, rfl, by decide +kernel, rfl, by decide +kernel, by decide +kernel⟩
abbrev s_there : Stmt := top 25
abbrev N_there : List Str := ["deeds", "some", "one"]
theorem sc_there : FnScope N_there ["deeds"] (defScope s_there) := ⟨rfl, rfl, rfl, by decide +kernel, rfl, by decide +kernel, by decide +kernel⟩
abbrev s_named : Stmt := top 26
abbrev N_named : List Str := ["deeds", "found", "last", "count", "one"]
theorem sc_named : FnScope N_named ["deeds"] (defScope s_named) := ⟨rfl, rfl, rfl, by decide +kernel, rfl, by decide +kernel, by decide +kernel⟩
abbrev s_row_there : Stmt := top 28
abbrev N_row_there : List Str := ["deeds", "key", "some", "one"]
theorem sc_row_there : FnScope N_row_there ["deeds", "key"] (defScope s_row_there) := ⟨rfl, rfl, rfl, by decide +kernel, rfl, by decide +kernel, by decide +kernel⟩
abbrev s_why : Stmt := top 29
abbrev N_why : List Str := ["deeds", "key", "row", "worths", "since", "deed"]
theorem sc_why : FnScope N_why ["deeds", "key"] (defScope s_why) := ⟨rfl, rfl, rfl, by decide +kernel, rfl, by decide +kernel, by decide +kernel⟩
abbrev s_wanting_of : Stmt := top 30
abbrev N_wanting_of : List Str := ["deeds", "name", "one"]
theorem sc_wanting_of : FnScope N_wanting_of ["deeds", "name"] (defScope s_wanting_of) := ⟨rfl, rfl, rfl, by decide +kernel, rfl, by decide +kernel, by decide +kernel⟩
abbrev s_wanting : Stmt := top 31
abbrev N_wanting : List Str := ["deeds", "name"]
theorem sc_wanting : FnScope N_wanting ["deeds", "name"] (defScope s_wanting) := ⟨rfl, rfl, rfl, by decide +kernel, rfl, by decide +kernel, by decide +kernel⟩
abbrev s_faces : Stmt := top 32
abbrev N_faces : List Str := ["deeds", "name", "one"]
theorem sc_faces : FnScope N_faces ["deeds"] (defScope s_faces) := ⟨rfl, rfl, rfl, by decide +kernel, rfl, by decide +kernel, by decide +kernel⟩
abbrev s_apart : Stmt := top 33
abbrev N_apart : List Str := ["one", "other", "mine", "its", "found", "key"]
theorem sc_apart : FnScope N_apart ["one", "other"] (defScope s_apart) := ⟨rfl, rfl, rfl, by decide +kernel, rfl, by decide +kernel, by decide +kernel⟩
abbrev s_silent : Stmt := top 34
abbrev N_silent : List Str := ["deeds", "row", "whole", "deed", "one"]
theorem sc_silent : FnScope N_silent ["deeds"] (defScope s_silent) := ⟨rfl, rfl, rfl, by decide +kernel, rfl, by decide +kernel, by decide +kernel⟩
abbrev s_law_cell : Stmt := top 36
abbrev N_law_cell : List Str := ["script", "k"]
theorem sc_law_cell : FnScope N_law_cell ["script", "k"] (defScope s_law_cell) := ⟨rfl, rfl, rfl, by decide +kernel, rfl, by decide +kernel, by decide +kernel⟩
abbrev s_law_mix : Stmt := top 37
abbrev N_law_mix : List Str := ["script", "k", "number"]
theorem sc_law_mix : FnScope N_law_mix ["script", "k"] (defScope s_law_mix) := ⟨rfl, rfl, rfl, by decide +kernel, rfl, by decide +kernel, by decide +kernel⟩
abbrev s_law_draw : Stmt := top 38
abbrev N_law_draw : List Str := ["script", "town", "many"]
theorem sc_law_draw : FnScope N_law_draw ["script", "town", "many"] (defScope s_law_draw) := ⟨rfl, rfl, rfl, by decide +kernel, rfl, by decide +kernel, by decide +kernel⟩
abbrev s_law_pick : Stmt := top 39
abbrev N_law_pick : List Str := ["script", "town", "some"]
theorem sc_law_pick : FnScope N_law_pick ["script", "town", "some"] (defScope s_law_pick) := ⟨rfl, rfl, rfl, by decide +kernel, rfl, by decide +kernel, by decide +kernel⟩
abbrev s_law_refusal : Stmt := top 40
abbrev N_law_refusal : List Str := ["caught", "kinds"]
theorem sc_law_refusal : FnScope N_law_refusal ["caught"] (defScope s_law_refusal) := ⟨rfl, rfl, rfl, by decide +kernel, rfl, by decide +kernel, by decide +kernel⟩
abbrev s_law_name : Stmt := top 41
abbrev N_law_name : List Str := ["script", "town", "letters", "k"]
theorem sc_law_name : FnScope N_law_name ["script", "town"] (defScope s_law_name) := ⟨rfl, rfl, rfl, by decide +kernel, rfl, by decide +kernel, by decide +kernel⟩
abbrev s_law_deed : Stmt := top 42
abbrev N_law_deed : List Str := ["script", "town", "rows", "most", "key", "word", "some", "at", "one"]
theorem sc_law_deed : FnScope N_law_deed ["script", "town", "rows", "most"] (defScope s_law_deed) := ⟨rfl, rfl, rfl, by decide +kernel, rfl, by decide +kernel, by decide +kernel⟩
abbrev s_law_deeds : Stmt := top 43
abbrev N_law_deeds : List Str := ["script", "town", "count", "most", "found", "rows", "k", "deed", "key"]
theorem sc_law_deeds : FnScope N_law_deeds ["script", "town", "count", "most"] (defScope s_law_deeds) := ⟨rfl, rfl, rfl, by decide +kernel, rfl, by decide +kernel, by decide +kernel⟩
abbrev s_law_there : Stmt := top 44
abbrev N_law_there : List Str := ["deeds", "found", "deed", "mine", "names", "k", "worths", "one"]
theorem sc_law_there : FnScope N_law_there ["deeds"] (defScope s_law_there) := ⟨rfl, rfl, rfl, by decide +kernel, rfl, by decide +kernel, by decide +kernel⟩
abbrev s_law_shown : Stmt := top 45
abbrev N_law_shown : List Str := ["deeds", "found", "name", "since", "key", "worth", "count", "one"]
theorem sc_law_shown : FnScope N_law_shown ["deeds"] (defScope s_law_shown) := ⟨rfl, rfl, rfl, by decide +kernel, rfl, by decide +kernel, by decide +kernel⟩
abbrev s_law_one : Stmt := top 46
abbrev N_law_one : List Str := ["kind", "given"]
theorem sc_law_one : FnScope N_law_one ["kind", "given"] (defScope s_law_one) := ⟨rfl, rfl, rfl, by decide +kernel, rfl, by decide +kernel, by decide +kernel⟩
abbrev s_law_told : Stmt := top 47
abbrev N_law_told : List Str := ["kind", "some", "caught", "found", "e"]
theorem sc_law_told : FnScope N_law_told ["kind", "some"] (defScope s_law_told) := ⟨rfl, rfl, rfl, by decide +kernel, rfl, by decide +kernel, by decide +kernel⟩
abbrev s_law_faces : Stmt := top 48
abbrev N_law_faces : List Str := ["deeds", "had", "name", "key", "worth"]
theorem sc_law_faces : FnScope N_law_faces ["deeds"] (defScope s_law_faces) := ⟨rfl, rfl, rfl, by decide +kernel, rfl, by decide +kernel, by decide +kernel⟩
abbrev s_law_why : Stmt := top 49
abbrev N_law_why : List Str := ["deeds", "rows", "row", "name", "since", "key", "worth", "first", "told", "ahead", "deed", "one"]
theorem sc_law_why : FnScope N_law_why ["deeds", "rows", "row"] (defScope s_law_why) := ⟨rfl, rfl, rfl, by decide +kernel, rfl, by decide +kernel, by decide +kernel⟩
abbrev s_law : Stmt := top 50
abbrev N_law : List Str := ["script", "town", "deeds", "rows", "row", "gone", "name", "at", "other", "some", "mine", "its", "keys", "due", "deed", "k", "key", "one"]
theorem sc_law : FnScope N_law ["script"] (defScope s_law) := ⟨rfl, rfl, rfl, by decide +kernel, rfl, by decide +kernel, by decide +kernel⟩
abbrev lamq : Str := ("there" : Str) ++ ".<locals>." ++ "<lambda>"
structure Ad where
  t_SMALL : Tok
  t_MOST_NAME : Tok
  t_MOST_WORTH : Tok
  t_MOST_STAMP : Tok
  t_MOST_HAND : Tok
  is_name : Addr
  d_is_name : FuncData
  is_worth : Addr
  d_is_worth : FuncData
  is_key : Addr
  d_is_key : FuncData
  is_deed : Addr
  d_is_deed : FuncData
  look_deeds : Addr
  d_look_deeds : FuncData
  in_order : Addr
  d_in_order : FuncData
  Row___init__ : Addr
  d_Row___init__ : FuncData
  all_rows : Addr
  d_all_rows : FuncData
  there : Addr
  d_there : FuncData
  ct : Addr
  Pt : Addr
  named : Addr
  d_named : FuncData
  row_there : Addr
  d_row_there : FuncData
  why : Addr
  d_why : FuncData
  wanting_of : Addr
  d_wanting_of : FuncData
  wanting : Addr
  d_wanting : FuncData
  faces : Addr
  d_faces : FuncData
  apart : Addr
  d_apart : FuncData
  silent : Addr
  d_silent : FuncData
  law_cell : Addr
  d_law_cell : FuncData
  law_mix : Addr
  d_law_mix : FuncData
  law_draw : Addr
  d_law_draw : FuncData
  law_pick : Addr
  d_law_pick : FuncData
  law_refusal : Addr
  d_law_refusal : FuncData
  law_name : Addr
  d_law_name : FuncData
  law_deed : Addr
  d_law_deed : FuncData
  law_deeds : Addr
  d_law_deeds : FuncData
  law_there : Addr
  d_law_there : FuncData
  law_shown : Addr
  d_law_shown : FuncData
  law_one : Addr
  d_law_one : FuncData
  law_told : Addr
  d_law_told : FuncData
  law_faces : Addr
  d_law_faces : FuncData
  law_why : Addr
  d_law_why : FuncData
  law : Addr
  d_law : FuncData
  Row : Addr
  FallError : Addr
  BadDeed : Addr
  NoRow : Addr
  Taken : Addr
  BadName : Addr
  BadNumber : Addr
  Nothing : Addr
  BadText : Addr
  SIZES : Addr
  zes : Array DictEntry
  zn : Nat
  t_new : Tok
  t_name : Tok
  t_worth : Tok
  t_drop : Tok
structure Tx (K : PySem.W.Frag) (w : World) (mg : Str → Option Value) (A : Ad) : Prop where
  c_SMALL : mg "SMALL" = some (.str "abcdefghijklmnopqrstuvwxyz" A.t_SMALL)
  c_MOST_NAME : mg "MOST_NAME" = some (.int 4 A.t_MOST_NAME)
  c_MOST_WORTH : mg "MOST_WORTH" = some (.int 99 A.t_MOST_WORTH)
  c_MOST_STAMP : mg "MOST_STAMP" = some (.int 999 A.t_MOST_STAMP)
  c_MOST_HAND : mg "MOST_HAND" = some (.int 5 A.t_MOST_HAND)
  f_is_name : Dn K mg "is_name" "is_name" s_is_name ["name"] A.is_name A.d_is_name
  f_is_worth : Dn K mg "is_worth" "is_worth" s_is_worth ["worth"] A.is_worth A.d_is_worth
  f_is_key : Dn K mg "is_key" "is_key" s_is_key ["key"] A.is_key A.d_is_key
  f_is_deed : Dn K mg "is_deed" "is_deed" s_is_deed ["deed"] A.is_deed A.d_is_deed
  f_look_deeds : Dn K mg "look_deeds" "look_deeds" s_look_deeds ["deeds"] A.look_deeds A.d_look_deeds
  f_in_order : Dn K mg "in_order" "in_order" s_in_order ["deeds"] A.in_order A.d_in_order
  f_Row___init__ : Dm K "__init__" "Row.__init__" s_Row___init__ ["self", "key", "name", "worth"] A.Row___init__ A.d_Row___init__
  f_all_rows : Dn K mg "all_rows" "all_rows" s_all_rows ["deeds"] A.all_rows A.d_all_rows
  f_there : Dn K mg "there" "there" s_there ["deeds"] A.there A.d_there
  lam_there : FunC K "there" "there" s_there A.there A.d_there A.ct
  f_named : Dn K mg "named" "named" s_named ["deeds"] A.named A.d_named
  f_row_there : Dn K mg "row_there" "row_there" s_row_there ["deeds", "key"] A.row_there A.d_row_there
  f_why : Dn K mg "why" "why" s_why ["deeds", "key"] A.why A.d_why
  f_wanting_of : Dn K mg "wanting_of" "wanting_of" s_wanting_of ["deeds", "name"] A.wanting_of A.d_wanting_of
  f_wanting : Dn K mg "wanting" "wanting" s_wanting ["deeds", "name"] A.wanting A.d_wanting
  f_faces : Dn K mg "faces" "faces" s_faces ["deeds"] A.faces A.d_faces
  f_apart : Dn K mg "apart" "apart" s_apart ["one", "other"] A.apart A.d_apart
  f_silent : Dn K mg "silent" "silent" s_silent ["deeds"] A.silent A.d_silent
  f_law_cell : Dn K mg "_law_cell" "_law_cell" s_law_cell ["script", "k"] A.law_cell A.d_law_cell
  f_law_mix : Dn K mg "_law_mix" "_law_mix" s_law_mix ["script", "k"] A.law_mix A.d_law_mix
  f_law_draw : Dn K mg "_law_draw" "_law_draw" s_law_draw ["script", "town", "many"] A.law_draw A.d_law_draw
  f_law_pick : Dn K mg "_law_pick" "_law_pick" s_law_pick ["script", "town", "some"] A.law_pick A.d_law_pick
  f_law_refusal : Dn K mg "_law_refusal" "_law_refusal" s_law_refusal ["caught"] A.law_refusal A.d_law_refusal
  f_law_name : Dn K mg "_law_name" "_law_name" s_law_name ["script", "town"] A.law_name A.d_law_name
  f_law_deed : Dn K mg "_law_deed" "_law_deed" s_law_deed ["script", "town", "rows", "most"] A.law_deed A.d_law_deed
  f_law_deeds : Dn K mg "_law_deeds" "_law_deeds" s_law_deeds ["script", "town", "count", "most"] A.law_deeds A.d_law_deeds
  f_law_there : Dn K mg "_law_there" "_law_there" s_law_there ["deeds"] A.law_there A.d_law_there
  f_law_shown : Dn K mg "_law_shown" "_law_shown" s_law_shown ["deeds"] A.law_shown A.d_law_shown
  f_law_one : Dn K mg "_law_one" "_law_one" s_law_one ["kind", "given"] A.law_one A.d_law_one
  f_law_told : Dn K mg "_law_told" "_law_told" s_law_told ["kind", "some"] A.law_told A.d_law_told
  f_law_faces : Dn K mg "_law_faces" "_law_faces" s_law_faces ["deeds"] A.law_faces A.d_law_faces
  f_law_why : Dn K mg "_law_why" "_law_why" s_law_why ["deeds", "rows", "row"] A.law_why A.d_law_why
  f_law : Dn K mg "law" "law" s_law ["script"] A.law A.d_law
  g_Row : mg "Row" = some (.ref A.Row)
  cl_Row : Cls K A.Row
  mk_Row : Mk K A.Row A.Row___init__
  n_Row_key : NoAttr K A.Row "key"
  n_Row_name : NoAttr K A.Row "name"
  n_Row_since : NoAttr K A.Row "since"
  n_Row_worth : NoAttr K A.Row "worth"
  n_Row_is_dropped : NoAttr K A.Row "is_dropped"
  xc_FallError : XCls K mg "FallError" A.FallError
  xc_BadDeed : XCls K mg "BadDeed" A.BadDeed
  xc_NoRow : XCls K mg "NoRow" A.NoRow
  xc_Taken : XCls K mg "Taken" A.Taken
  xc_BadName : XCls K mg "BadName" A.BadName
  xc_BadNumber : XCls K mg "BadNumber" A.BadNumber
  xc_Nothing : XCls K mg "Nothing" A.Nothing
  xc_BadText : XCls K mg "BadText" A.BadText
  ec_BadDeed : ExcC K A.BadDeed
  xm_BadDeed : PySem.W.exmOne K (.ref A.BadDeed) (.ref A.FallError) = some true
  ki_BadDeed_BadDeed : PySem.W.kitOne K (.ref A.BadDeed) (.ref A.BadDeed) = some true
  ki_BadDeed_NoRow : PySem.W.kitOne K (.ref A.BadDeed) (.ref A.NoRow) = some false
  ki_BadDeed_Taken : PySem.W.kitOne K (.ref A.BadDeed) (.ref A.Taken) = some false
  ki_BadDeed_BadName : PySem.W.kitOne K (.ref A.BadDeed) (.ref A.BadName) = some false
  ki_BadDeed_BadNumber : PySem.W.kitOne K (.ref A.BadDeed) (.ref A.BadNumber) = some false
  ki_BadDeed_Nothing : PySem.W.kitOne K (.ref A.BadDeed) (.ref A.Nothing) = some false
  ki_BadDeed_BadText : PySem.W.kitOne K (.ref A.BadDeed) (.ref A.BadText) = some false
  kv_BadDeed : PySem.W.kitOne K (.ref A.BadDeed) (.type "ValueError") = some true
  ec_NoRow : ExcC K A.NoRow
  xm_NoRow : PySem.W.exmOne K (.ref A.NoRow) (.ref A.FallError) = some true
  ki_NoRow_BadDeed : PySem.W.kitOne K (.ref A.NoRow) (.ref A.BadDeed) = some false
  ki_NoRow_NoRow : PySem.W.kitOne K (.ref A.NoRow) (.ref A.NoRow) = some true
  ki_NoRow_Taken : PySem.W.kitOne K (.ref A.NoRow) (.ref A.Taken) = some false
  ki_NoRow_BadName : PySem.W.kitOne K (.ref A.NoRow) (.ref A.BadName) = some false
  ki_NoRow_BadNumber : PySem.W.kitOne K (.ref A.NoRow) (.ref A.BadNumber) = some false
  ki_NoRow_Nothing : PySem.W.kitOne K (.ref A.NoRow) (.ref A.Nothing) = some false
  ki_NoRow_BadText : PySem.W.kitOne K (.ref A.NoRow) (.ref A.BadText) = some false
  kv_NoRow : PySem.W.kitOne K (.ref A.NoRow) (.type "ValueError") = some true
  ec_Taken : ExcC K A.Taken
  xm_Taken : PySem.W.exmOne K (.ref A.Taken) (.ref A.FallError) = some true
  ki_Taken_BadDeed : PySem.W.kitOne K (.ref A.Taken) (.ref A.BadDeed) = some false
  ki_Taken_NoRow : PySem.W.kitOne K (.ref A.Taken) (.ref A.NoRow) = some false
  ki_Taken_Taken : PySem.W.kitOne K (.ref A.Taken) (.ref A.Taken) = some true
  ki_Taken_BadName : PySem.W.kitOne K (.ref A.Taken) (.ref A.BadName) = some false
  ki_Taken_BadNumber : PySem.W.kitOne K (.ref A.Taken) (.ref A.BadNumber) = some false
  ki_Taken_Nothing : PySem.W.kitOne K (.ref A.Taken) (.ref A.Nothing) = some false
  ki_Taken_BadText : PySem.W.kitOne K (.ref A.Taken) (.ref A.BadText) = some false
  kv_Taken : PySem.W.kitOne K (.ref A.Taken) (.type "ValueError") = some true
  ec_BadName : ExcC K A.BadName
  xm_BadName : PySem.W.exmOne K (.ref A.BadName) (.ref A.FallError) = some true
  ki_BadName_BadDeed : PySem.W.kitOne K (.ref A.BadName) (.ref A.BadDeed) = some false
  ki_BadName_NoRow : PySem.W.kitOne K (.ref A.BadName) (.ref A.NoRow) = some false
  ki_BadName_Taken : PySem.W.kitOne K (.ref A.BadName) (.ref A.Taken) = some false
  ki_BadName_BadName : PySem.W.kitOne K (.ref A.BadName) (.ref A.BadName) = some true
  ki_BadName_BadNumber : PySem.W.kitOne K (.ref A.BadName) (.ref A.BadNumber) = some false
  ki_BadName_Nothing : PySem.W.kitOne K (.ref A.BadName) (.ref A.Nothing) = some false
  ki_BadName_BadText : PySem.W.kitOne K (.ref A.BadName) (.ref A.BadText) = some false
  kv_BadName : PySem.W.kitOne K (.ref A.BadName) (.type "ValueError") = some true
  ec_BadNumber : ExcC K A.BadNumber
  xm_BadNumber : PySem.W.exmOne K (.ref A.BadNumber) (.ref A.FallError) = some true
  ki_BadNumber_BadDeed : PySem.W.kitOne K (.ref A.BadNumber) (.ref A.BadDeed) = some false
  ki_BadNumber_NoRow : PySem.W.kitOne K (.ref A.BadNumber) (.ref A.NoRow) = some false
  ki_BadNumber_Taken : PySem.W.kitOne K (.ref A.BadNumber) (.ref A.Taken) = some false
  ki_BadNumber_BadName : PySem.W.kitOne K (.ref A.BadNumber) (.ref A.BadName) = some false
  ki_BadNumber_BadNumber : PySem.W.kitOne K (.ref A.BadNumber) (.ref A.BadNumber) = some true
  ki_BadNumber_Nothing : PySem.W.kitOne K (.ref A.BadNumber) (.ref A.Nothing) = some false
  ki_BadNumber_BadText : PySem.W.kitOne K (.ref A.BadNumber) (.ref A.BadText) = some false
  kv_BadNumber : PySem.W.kitOne K (.ref A.BadNumber) (.type "ValueError") = some true
  ec_Nothing : ExcC K A.Nothing
  xm_Nothing : PySem.W.exmOne K (.ref A.Nothing) (.ref A.FallError) = some true
  ki_Nothing_BadDeed : PySem.W.kitOne K (.ref A.Nothing) (.ref A.BadDeed) = some false
  ki_Nothing_NoRow : PySem.W.kitOne K (.ref A.Nothing) (.ref A.NoRow) = some false
  ki_Nothing_Taken : PySem.W.kitOne K (.ref A.Nothing) (.ref A.Taken) = some false
  ki_Nothing_BadName : PySem.W.kitOne K (.ref A.Nothing) (.ref A.BadName) = some false
  ki_Nothing_BadNumber : PySem.W.kitOne K (.ref A.Nothing) (.ref A.BadNumber) = some false
  ki_Nothing_Nothing : PySem.W.kitOne K (.ref A.Nothing) (.ref A.Nothing) = some true
  ki_Nothing_BadText : PySem.W.kitOne K (.ref A.Nothing) (.ref A.BadText) = some false
  kv_Nothing : PySem.W.kitOne K (.ref A.Nothing) (.type "ValueError") = some true
  ec_BadText : ExcC K A.BadText
  xm_BadText : PySem.W.exmOne K (.ref A.BadText) (.ref A.FallError) = some true
  ki_BadText_BadDeed : PySem.W.kitOne K (.ref A.BadText) (.ref A.BadDeed) = some false
  ki_BadText_NoRow : PySem.W.kitOne K (.ref A.BadText) (.ref A.NoRow) = some false
  ki_BadText_Taken : PySem.W.kitOne K (.ref A.BadText) (.ref A.Taken) = some false
  ki_BadText_BadName : PySem.W.kitOne K (.ref A.BadText) (.ref A.BadName) = some false
  ki_BadText_BadNumber : PySem.W.kitOne K (.ref A.BadText) (.ref A.BadNumber) = some false
  ki_BadText_Nothing : PySem.W.kitOne K (.ref A.BadText) (.ref A.Nothing) = some false
  ki_BadText_BadText : PySem.W.kitOne K (.ref A.BadText) (.ref A.BadText) = some true
  kv_BadText : PySem.W.kitOne K (.ref A.BadText) (.type "ValueError") = some true
  g_SIZES : mg "SIZES" = some (.ref A.SIZES)
  d_SIZES : KDict K w A.SIZES A.zes A.zn
  z_new : PySem.W.nsIn K A.SIZES "new" = some (some (.int 5 A.t_new))
  z_name : PySem.W.nsIn K A.SIZES "name" = some (some (.int 5 A.t_name))
  z_worth : PySem.W.nsIn K A.SIZES "worth" = some (some (.int 5 A.t_worth))
  z_drop : PySem.W.nsIn K A.SIZES "drop" = some (some (.int 4 A.t_drop))
  z_old : PySem.W.nsIn K A.SIZES "old" = some none
  b_ValueError : mg "ValueError" = none
  b_all : mg "all" = none
  b_dict : mg "dict" = none
  b_int : mg "int" = none
  b_isinstance : mg "isinstance" = none
  b_len : mg "len" = none
  b_list : mg "list" = none
  b_range : mg "range" = none
  b_set : mg "set" = none
  b_sorted : mg "sorted" = none
  b_str : mg "str" = none
end NF
namespace NF
open PySem L2
local macro_rules | `(tactic| walk_at "rd") => `(tactic| simp only [wDrop, wRet, wSet, wIfS, wDPut, wFld, wSetFld, wCall, wCB, wMake, wVar, wC, wOp, wTest, wChain, wAndV, wOrV, wNotV, wAnd, wOr, wNot, wIf, wTruth, wNil, wCons, wTup, wLst, wLstO, wDict, aInt, aIntC, ix_tup, ix_lst, ix_str, ix_scr, len_lst, len_tup, len_scr, len_str, add_int, add_str, add_tup, add_lst, sl_tup, sl_lst, tru_bl, tru_non, tru_int, tru_lst, tru_tup, tru_scr, ex_key, sl_dd, ix_dd0, ix_dd2, eqk_word, wd_new, wd_name, wd_worth, wd_drop, ix_n3, ix_n4, ix_m3, ix_m4, ix_w3, ix_w4, ix_d3, eqk_new, eqk_name, eqk_worth, eqk_drop, w_nn, w_wn, w_dn, w_nd, w_wd, w_wm, w_dm, w_dw, w_nw, w_ed, w_em, w_ew, ix_nm0, ix_nm1, now_table, now_dd, eqb_dd, eqb_self, wSl, wNoPart, wPart, wSeq, wNext, wNever, wCont, wBreak, wNeg, wYes, wBM, aAppend, aStr, aIntB, wIter, wIterT, wIterS, wRng1, wRev, wLenSet, wDGet, wDGet2, wDIn, wKeys, wVals, aEq, aNe, aAll, aNotInK, lt_int, lt_key, eqb_nil, eqk_nil, ge_key, List.cons.injEq, D.op.injEq, V.ref.injEq, Option.isSome_some, Option.isSome_none, aInSign, Tg.put, putAll, gwipe,
  now_int, now_str, now_tup, now_lst, now_non, now_bl, now_opt, eqb_opt, eqb_so, ins_rcd, f_key, f_name, f_since, f_worth, f_gone, eqk_int, eqk_non, eqk_key, eqb_int, eqb_str, eqb_key, atI_0, atI_1, atI_2, atI_3, atI_4, atI_last, cut_2, List.take_succ_cons, List.take_zero, true_and, and_true, if_true,
  startD, List.map_cons, List.map_nil, List.length_cons, List.length_nil, List.cons_append, List.nil_append, List.replicate, List.getElem?_cons_zero, List.getElem?_cons_succ, List.set_cons_zero, List.set_cons_succ, Option.some.injEq, exists_eq_left, exists_eq_left', D.int.injEq, D.str.injEq, D.bl.injEq, D.tup.injEq, D.lst.injEq, exists_and_left, exists_and_right, Nat.reduceAdd, Nat.reduceSub, Int.cast_ofNat_Int, Bool.false_eq_true, false_imp_iff, true_imp_iff, reduceCtorEq, decide_eq_true_eq, decide_eq_false_iff_not, decide_true, decide_false, not_true_eq_false, not_false_eq_true, Bool.not_true, Bool.not_false, Bool.not_eq_true', Bool.not_eq_false', ne_eq, and_self, implies_true, ↓reduceIte, xIf, xCall, xSet, xDrop, xRet, xIfS, xSeq, xRaise, xOf, sOfX, wLenSet])
local macro_rules | `(tactic| walk_at "rdd") => `(tactic| simp only [wDrop, wRet, wSet, wIfS, wDPut, wFld, wSetFld, wCall, wCB, wMake, wVar, wC, wOp, wTest, wChain, wAndV, wOrV, wNotV, wAnd, wOr, wNot, wIf, wTruth, wNil, wCons, wTup, wLst, wLstO, wDict, aInt, aIntC, ix_tup, ix_lst, ix_str, ix_scr, len_lst, len_tup, len_scr, len_str, add_int, add_str, add_tup, add_lst, sl_tup, sl_lst, tru_bl, tru_non, tru_int, tru_lst, tru_tup, tru_scr, ex_key, Dd.d, Dd.key, Dd.word, Dd.tl, eqk_new, eqk_name, eqk_worth, eqk_drop, w_nn, w_wn, w_dn, w_nd, w_wd, w_wm, w_dm, w_dw, w_nw, w_ed, w_em, w_ew, ix_nm0, ix_nm1, now_table, now_dd, eqb_dd, eqb_self, wSl, wNoPart, wPart, wSeq, wNext, wNever, wCont, wBreak, wNeg, wYes, wBM, aAppend, aStr, aIntB, wIter, wIterT, wIterS, wRng1, wRev, wLenSet, wDGet, wDGet2, wDIn, wKeys, wVals, aEq, aNe, aAll, aNotInK, lt_int, lt_key, eqb_nil, eqk_nil, ge_key, List.cons.injEq, D.op.injEq, V.ref.injEq, Option.isSome_some, Option.isSome_none, aInSign, Tg.put, putAll, gwipe,
  now_int, now_str, now_tup, now_lst, now_non, now_bl, now_opt, eqb_opt, eqb_so, ins_rcd, f_key, f_name, f_since, f_worth, f_gone, eqk_int, eqk_non, eqk_key, eqb_int, eqb_str, eqb_key, atI_0, atI_1, atI_2, atI_3, atI_4, atI_last, cut_2, List.take_succ_cons, List.take_zero, true_and, and_true, if_true,
  startD, List.map_cons, List.map_nil, List.length_cons, List.length_nil, List.cons_append, List.nil_append, List.replicate, List.getElem?_cons_zero, List.getElem?_cons_succ, List.set_cons_zero, List.set_cons_succ, Option.some.injEq, exists_eq_left, exists_eq_left', D.int.injEq, D.str.injEq, D.bl.injEq, D.tup.injEq, D.lst.injEq, exists_and_left, exists_and_right, Nat.reduceAdd, Nat.reduceSub, Int.cast_ofNat_Int, Bool.false_eq_true, false_imp_iff, true_imp_iff, reduceCtorEq, decide_eq_true_eq, decide_eq_false_iff_not, decide_true, decide_false, not_true_eq_false, not_false_eq_true, Bool.not_true, Bool.not_false, Bool.not_eq_true', Bool.not_eq_false', ne_eq, and_self, implies_true, ↓reduceIte, xIf, xCall, xSet, xDrop, xRet, xIfS, xSeq, xRaise, xOf, sOfX, wLenSet])
local macro_rules | `(tactic| walk_at "rq") => `(tactic| simp only [wDrop, wRet, wSet, wIfS, wDPut, wFld, wSetFld, wCall, wCB, wMake, wVar, wC, wOp, wTest, wChain, wAndV, wOrV, wNotV, wAnd, wOr, wNot, wIf, wTruth, wNil, wCons, wTup, wLst, wLstO, wDict, aInt, aIntC, ix_tup, ix_lst, ix_str, ix_scr, len_lst, len_tup, len_scr, len_str, add_int, add_str, add_tup, add_lst, sl_tup, sl_lst, tru_bl, tru_non, tru_int, tru_lst, tru_tup, tru_scr, ex_key, sl_dd, ix_dd0, ix_dd2, eqk_word, wd_new, wd_name, wd_worth, wd_drop, ix_n3, ix_n4, ix_m3, ix_m4, ix_w3, ix_w4, ix_d3, eqk_new, eqk_name, eqk_worth, eqk_drop, w_nn, w_wn, w_dn, w_nd, w_wd, w_wm, w_dm, w_dw, w_nw, w_ed, w_em, w_ew, ix_nm0, ix_nm1, now_table, now_dd, eqb_dd, eqb_self, wSl, wNoPart, wPart, wNext, wNever, wCont, wBreak, wNeg, wYes, wBM, aAppend, aStr, aIntB, wIter, wIterT, wIterS, wRng1, wRev, wLenSet, wDGet, wDGet2, wDIn, wKeys, wVals, aEq, aNe, aAll, aNotInK, lt_int, lt_key, eqb_nil, eqk_nil, ge_key, List.cons.injEq, D.op.injEq, V.ref.injEq, Option.isSome_some, Option.isSome_none, aInSign, Tg.put, putAll, gwipe,
  now_int, now_str, now_tup, now_lst, now_non, now_bl, now_opt, eqb_opt, eqb_so, ins_rcd, f_key, f_name, f_since, f_worth, f_gone, eqk_int, eqk_non, eqk_key, eqb_int, eqb_str, eqb_key, atI_0, atI_1, atI_2, atI_3, atI_4, atI_last, cut_2, List.take_succ_cons, List.take_zero, true_and, and_true, if_true,
  startD, List.map_cons, List.map_nil, List.length_cons, List.length_nil, List.cons_append, List.nil_append, List.replicate, List.getElem?_cons_zero, List.getElem?_cons_succ, List.set_cons_zero, List.set_cons_succ, Option.some.injEq, exists_eq_left, exists_eq_left', D.int.injEq, D.str.injEq, D.bl.injEq, D.tup.injEq, D.lst.injEq, exists_and_left, exists_and_right, Nat.reduceAdd, Nat.reduceSub, Int.cast_ofNat_Int, Bool.false_eq_true, false_imp_iff, true_imp_iff, reduceCtorEq, decide_eq_true_eq, decide_eq_false_iff_not, decide_true, decide_false, not_true_eq_false, not_false_eq_true, Bool.not_true, Bool.not_false, Bool.not_eq_true', Bool.not_eq_false', ne_eq, and_self, implies_true, ↓reduceIte, xIf, xCall, xSet, xDrop, xRet, xIfS, xSeq, xRaise, xOf, sOfX, wLenSet])
section
variable {P : Program} {w : World} {K : PySem.W.Frag} {mg : Str → Option Value} {base : Heap} {A : Ad} (T : Tx K w mg A)
include T
def sp_is_worth : ASp := fun ds M Φ => ∃ i : Int, ds = [.int i] ∧ Φ (.bl (worthB i)) M
theorem ok_is_worth  : OkD P w K mg base A.is_worth A.d_is_worth ["worth"] 1 (sp_is_worth) := by
  refine def_ok T.f_is_worth.F sc_is_worth ?len (fun cdv Ar outer s H E hr =>
      (db_one (ds_ret (d_chain o_le o_le d_int (d_var 0) (d_globI rfl T.c_MOST_WORTH))))) ?read
  case len => rintro ds M Φ ⟨i, rfl, _⟩; rfl
  case read =>
    rintro ds M Φ ⟨i, rfl, h⟩
    walk_at "rd"
    unfold worthB at h
    by_cases h1 : 0 ≤ i
    · refine yesP h1 ?_
      rw [decide_eq_true h1, Bool.true_and] at h
      exact Fin.pure h
    · refine noP h1 ?_
      rw [decide_eq_false h1, Bool.false_and] at h
      exact Fin.pure h
def sp_is_key : ASp := fun ds M Φ => ∃ k : Ky, ds = [Ky.d k] ∧ Φ (.bl (keyB k)) M
theorem ok_is_key  : OkD P w K mg base A.is_key A.d_is_key ["key"] 1 (sp_is_key) := by
  refine def_ok T.f_is_key.F sc_is_key ?len (fun cdv Ar outer s H E hr =>
      (db_one (ds_ret (d_and (d_cmp (o_eq hr.units) (d_callB c_len T.b_len (by decide +kernel) (da_cons (d_var 0) da_nil)) d_int) (d_and (d_chain o_le o_le d_int (d_ix (d_var 0) d_int) (d_globI rfl T.c_MOST_STAMP)) (d_one (d_chain o_le o_le d_int (d_ix (d_var 0) d_int) (d_globI rfl T.c_MOST_HAND)))))))) ?read
  case len => rintro ds M Φ ⟨a, rfl, _⟩; rfl
  case read =>
    rintro ds M Φ ⟨a, rfl, h⟩
    walk_at "rd"
    unfold keyB at h
    by_cases h1 : 1 ≤ a.1
    · by_cases h2 : a.1 ≤ 999
      · by_cases h3 : 1 ≤ a.2
        · refine yesP h1 (yesP h2 (yesP h3 ?_))
          simp only [h1, h2, h3, decide_true, Bool.true_and] at h
          exact Fin.pure h
        · refine yesP h1 (yesP h2 (noP h3 ?_))
          simp only [h1, h2, h3, decide_true, decide_false, Bool.true_and, Bool.false_and] at h
          exact Fin.pure h
      · refine yesP h1 (noP h2 ?_)
        simp only [h1, h2, decide_true, decide_false, Bool.true_and, Bool.false_and] at h
        exact Fin.pure h
    · refine noP h1 ?_
      simp only [h1, decide_false, Bool.false_and] at h
      exact Fin.pure h
def sp_is_name : ASp := fun ds M Φ => ∃ x : Str, ds = [.str x] ∧ x.length ≤ 100 ∧ Φ (.bl (nameB x)) M
theorem ok_is_name  : OkD P w K mg base A.is_name A.d_is_name ["name"] 1 (sp_is_name) := by
  refine def_ok T.f_is_name.F sc_is_name ?len (fun cdv Ar outer s H E hr =>
      (db_one (ds_ret (d_and (d_chain o_le o_le d_int (d_callB c_len T.b_len (by decide +kernel) (da_cons (d_var 0) da_nil)) (d_globI rfl T.c_MOST_NAME)) (d_one (d_callB (c_all rfl) T.b_all (by decide +kernel) (da_cons (d_lc [("sign", 1)] rfl sc_is_name.nd (di_str (d_var 0)) (blkOk_by (N := N_is_name) (sc := defScope s_is_name) (by decide +kernel)) (fun _ _ _ _ _ => (dg_one 1 sc_is_name.nd (by first | exact .inl rfl | exact .inr rfl))) (fun _ _ _ _ _ => dts_nil) (fun _ _ _ _ _ => (d_cmp o_inSign (d_var 1) (d_globS rfl T.c_SMALL)))) da_nil))))))) ?read
  case len => rintro ds M Φ ⟨i, rfl, _⟩; rfl
  case read =>
    rintro ds M Φ ⟨x, rfl, hl, h⟩
    unfold nameB at h
    walk_at "rd"
    refine ⟨size_le hl, ?_⟩
    by_cases h1 : 1 ≤ x.length
    · refine yesP (by omega) ?_
      by_cases h2 : x.length ≤ 4
      · refine yesP (by omega) ?_
        refine lc_all x.cps.toList (fun c => D.str ⟨#[c]⟩) (fun c => .bl (decide (c ∈ (Str.ofString "abcdefghijklmnopqrstuvwxyz").cps.toList))) (size_le (m := 4) (by rw [Array.length_toList]; exact h2)) (fun Ψ h => ?_) (fun c hc => ⟨_, rfl, fun Φ' h' => ?_⟩) ?_
        · walk_at "rd"
          exact h _ trivial
        · walk_at "rd"
          exact ⟨c, rfl, h'⟩
        · refine ⟨x.cps.toList.map fun c => decide (c ∈ (Str.ofString "abcdefghijklmnopqrstuvwxyz").cps.toList), by rw [List.map_map]; rfl, ?_⟩
          simp only [h1, h2, decide_true, Bool.true_and] at h
          rw [List.all_map]
          exact Fin.pure h
      · refine noP (by omega) ?_
        simp only [h1, h2, decide_true, decide_false, Bool.true_and, Bool.false_and] at h
        exact Fin.pure h
    · refine noP (by omega) ?_
      simp only [h1, decide_false, Bool.false_and] at h
      exact Fin.pure h
def sp_is_deed : ASp := fun ds M Φ => ∃ r : Dd × Bool, ds = [rawD r] ∧ Short r.1 ∧ Φ (.bl (deedB r)) M
theorem ok_is_deed (G_is_key : OkD P w K mg base A.is_key A.d_is_key ["key"] 1 (sp_is_key)) (G_is_name : OkD P w K mg base A.is_name A.d_is_name ["name"] 1 (sp_is_name)) (G_is_worth : OkD P w K mg base A.is_worth A.d_is_worth ["worth"] 1 (sp_is_worth)) : OkD P w K mg base A.is_deed A.d_is_deed ["deed"] 2 (sp_is_deed) := by
  refine def_ok T.f_is_deed.F sc_is_deed ?len (fun cdv Ar outer s H E hr =>
      (db_cons (ds_if (PW.pt (dw_or (dt_cmp (o_lt hr.units0) (d_callB c_len T.b_len (by decide +kernel) (da_cons (d_var 0) da_nil)) d_int) (dw_or (dt_cmp (o_notInKd T.d_SIZES) (d_ix (d_var 0) d_int) (d_globR rfl T.g_SIZES)) (dw_or (dt_cmp (o_ne hr.units) (d_callB c_len T.b_len (by decide +kernel) (da_cons (d_var 0) da_nil)) (d_ixKd (K := K) (w := w) (d_globR rfl T.g_SIZES) (d_ix (d_var 0) d_int))) (dw_or1 (dt_not (dt_truth (d_calld T.f_is_key G_is_key (hr.mono (by decide)) (da_cons (d_sl (d_var 0) do_none (do_some d_int)) da_nil))))))))) (db_one (ds_ret d_bl)) db_nil)
      (db_cons (ds_if (dt_cmp (o_eq hr.units) (d_ix (d_var 0) d_int) d_str) (db_one (ds_ret (d_and (d_calld T.f_is_name G_is_name (hr.mono (by decide)) (da_cons (d_ix (d_var 0) d_int) da_nil)) (d_one (d_calld T.f_is_worth G_is_worth (hr.mono (by decide)) (da_cons (d_ix (d_var 0) d_int) da_nil)))))) db_nil)
      (db_cons (ds_if (PW.pt (dw_or (dt_not (dt_truth (d_calld T.f_is_key G_is_key (hr.mono (by decide)) (da_cons (d_ix (d_var 0) d_int) da_nil)))) (dw_or1 (dt_cmp (o_ge hr.units0) (d_ix (d_var 0) d_int) (d_sl (d_var 0) do_none (do_some d_int)))))) (db_one (ds_ret d_bl)) db_nil)
      (db_one (ds_ret (d_or (d_cmp (o_eq hr.units) (d_ix (d_var 0) d_int) d_str) (d_one (d_if (dt_cmp (o_eq hr.units) (d_ix (d_var 0) d_int) d_str) (d_calld T.f_is_name G_is_name (hr.mono (by decide)) (da_cons (d_ix (d_var 0) d_int) da_nil)) (d_calld T.f_is_worth G_is_worth (hr.mono (by decide)) (da_cons (d_ix (d_var 0) d_int) da_nil))))))))))) ?read
  case len => rintro ds M Φ ⟨i, rfl, _⟩; rfl
  case read =>
    rintro ds M Φ ⟨⟨x, old⟩, rfl, hs, h⟩
    cases old with
    | true =>
      have e : deedB (x, true) = false := rfl
      rw [e] at h
      simp only [rawD, if_true]
      walk_at "rd"
      exact ⟨fun _ => Fin.pure h, fun _ => ⟨none, T.z_old, fun _ => Fin.pure h, fun z => (by cases z)⟩⟩
    | false =>
      rw [raw_false]
      have e : deedB (x, false) = okB x := rfl
      rw [e] at h
      cases x with
      | new k n v =>
        simp only [okB] at h
        walk_at "rdd"
        simp only [T.z_new]
        walk_at "rdd"
        refine noP (by decide) (ix_size T.d_SIZES T.z_new ?_)
        simp only [sp_is_key, sp_is_name, sp_is_worth]
        walk_at "rdd"
        exact ⟨k, ⟨rfl, rfl⟩, fun z => Fin.pure (by simpa [z] using h), fun z => ⟨hs.1, fun y => Fin.pure (by simpa [z, y] using h), fun y => Fin.pure (by simpa [z, y] using h)⟩⟩
      | name k a n =>
        simp only [okB] at h
        walk_at "rdd"
        simp only [T.z_name]
        walk_at "rdd"
        refine noP (by decide) (ix_size T.d_SIZES T.z_name ?_)
        simp only [sp_is_key, sp_is_name, sp_is_worth]
        walk_at "rdd"
        exact ⟨k, ⟨rfl, rfl⟩, fun z => Fin.pure (by simpa [z] using h), fun z => ⟨a, ⟨rfl, rfl⟩, fun y => Fin.pure (by simpa [z, y] using h), fun y => ⟨fun u => Fin.pure (by simpa [z, y, kltB, u] using h), fun u => ⟨hs.1, Fin.pure (by simpa [z, y, kltB, u] using h)⟩⟩⟩⟩
      | worth k a v =>
        simp only [okB] at h
        walk_at "rdd"
        simp only [T.z_worth]
        walk_at "rdd"
        refine noP (by decide) (ix_size T.d_SIZES T.z_worth ?_)
        simp only [sp_is_key, sp_is_name, sp_is_worth]
        walk_at "rdd"
        exact ⟨k, ⟨rfl, rfl⟩, fun z => Fin.pure (by simpa [z] using h), fun z => ⟨a, ⟨rfl, rfl⟩, fun y => Fin.pure (by simpa [z, y] using h), fun y => ⟨fun u => Fin.pure (by simpa [z, y, kltB, u] using h), fun u => Fin.pure (by simpa [z, y, kltB, u] using h)⟩⟩⟩
      | drop k a =>
        simp only [okB] at h
        walk_at "rdd"
        simp only [T.z_drop]
        walk_at "rdd"
        refine noP (by decide) (ix_size T.d_SIZES T.z_drop ?_)
        simp only [sp_is_key, sp_is_name, sp_is_worth]
        walk_at "rdd"
        exact ⟨k, ⟨rfl, rfl⟩, fun z => Fin.pure (by simpa [z] using h), fun z => ⟨a, ⟨rfl, rfl⟩, fun y => Fin.pure (by simpa [z, y] using h), fun y => ⟨fun u => Fin.pure (by simpa [z, y, kltB, u] using h), fun u => Fin.pure (by simpa [z, y, kltB, u] using h)⟩⟩⟩
/-- a list of deeds -/
def sp_look_deeds : ASp := fun ds M Φ => ∃ (d : D) (xs : List Dd), ds = [d] ∧ Now M d (.lst (xs.map Dd.d)) ∧ Good xs ∧ Φ .non M
theorem ok_look_deeds (G_is_deed : OkD P w K mg base A.is_deed A.d_is_deed ["deed"] 2 (sp_is_deed)) : OkD P w K mg base A.look_deeds A.d_look_deeds ["deeds"] 3 (sp_look_deeds) := by
  refine def_ok T.f_look_deeds.F sc_look_deeds ?len (fun cdv Ar outer s H E hr =>
      (db_cons (ds_if (dt_not (dt_truth (d_callB (c_all rfl) T.b_all (by decide +kernel) (da_cons (d_lc [("deed", 1)] rfl sc_look_deeds.nd (di_list (d_var 0)) (blkOk_by (N := N_look_deeds) (sc := defScope s_look_deeds) (by decide +kernel)) (fun _ _ _ _ _ => (dg_one 1 sc_look_deeds.nd (by first | exact .inl rfl | exact .inr rfl))) (fun _ _ _ _ _ => dts_nil) (fun _ _ _ _ _ => (d_calld T.f_is_deed G_is_deed (hr.mono (by decide)) (da_cons (d_var 1) da_nil)))) da_nil)))) (db_one ds_never) db_nil)
      (db_one (ds_if (dt_cmp (o_lt hr.units0) (d_lenSet T.b_len T.b_set hr (d_lc [("deed", 1)] rfl sc_look_deeds.nd (di_list (d_var 0)) (blkOk_by (N := N_look_deeds) (sc := defScope s_look_deeds) (by decide +kernel)) (fun _ _ _ _ _ => (dg_one 1 sc_look_deeds.nd (by first | exact .inl rfl | exact .inr rfl))) (fun _ _ _ _ _ => dts_nil) (fun _ _ _ _ _ => (d_sl (d_var 1) do_none (do_some d_int))))) (d_lenSet T.b_len T.b_set hr (d_var 0))) (db_one ds_never) db_nil)))) ?read
  case len => rintro ds M Φ ⟨d, xs, rfl, _⟩; rfl
  case read =>
    rintro ds M Φ ⟨d, xs, rfl, nw, g, h⟩
    walk_at "rd"
    refine lc_all xs Dd.d (fun x => .bl true) (size_le (m := 64) (Nat.le_of_lt g.few)) (fun Ψ h => ?_) (fun x hx => ⟨_, rfl, fun Φ' h' => ?_⟩) ?_
    · walk_at "rd"
      exact ⟨_, nw, h _ nw⟩
    · walk_at "rd"
      refine ⟨(x, false), rfl, short_ok (g.ok x hx), ?_⟩
      rw [show deedB (x, false) = true from okB_iff.mpr (g.ok x hx)]
      exact h'
    have e : (xs.map fun _ => true).all id = true := by rw [List.all_eq_true]; intro b hb; obtain ⟨_, _, rfl⟩ := List.mem_map.mp hb; rfl
    refine ⟨xs.map fun _ => true, by simp, fun z => absurd z (by rw [e]; decide), fun _ => ?_⟩
    refine lc_all xs Dd.d (fun x => Ky.d x.key) (size_le (m := 64) (Nat.le_of_lt g.few)) (fun Ψ h => ?_) (fun x hx => ⟨_, rfl, fun Φ' h' => ?_⟩) ?_
    · walk_at "rd"
      exact ⟨_, nw, h _ nw⟩
    · walk_at "rd"
      exact h'
    refine ⟨_, .self _, by simpa using g.few, .inl fun d hd => ?_, fun n hn => ⟨_, nw, by simpa using g.few, .inl fun d hd => ?_, fun m hm => noP (fun z => ?_) (Fin.pure h)⟩⟩
    · obtain ⟨x, _, rfl⟩ := List.mem_map.mp hd
      exact setkey_key _
    · obtain ⟨x, _, rfl⟩ := List.mem_map.mp hd
      exact setkey_dd x
    · have hn' : IsCard ((xs.map Dd.d).map head2) n := by rw [List.map_map]; exact hn
      have := IsCard.inj hm hn' fun a b ha hb e => by
        obtain ⟨x, hx, rfl⟩ := List.mem_map.mp ha
        obtain ⟨y, hy, rfl⟩ := List.mem_map.mp hb
        rw [g.one x y hx hy ?_]
        rw [head2_dd, head2_dd] at e
        simpa [Prod.ext_iff] using e
      omega
def spx_look_deeds (C : Addr) : ASpX := spBad C 0
theorem okx_look_deeds (G_is_deed : OkD P w K mg base A.is_deed A.d_is_deed ["deed"] 2 (sp_is_deed)) : OkX P w K mg base A.look_deeds A.d_look_deeds ["deeds"] 3 (spx_look_deeds A.BadDeed) := by
  refine def_okX T.f_look_deeds.F sc_look_deeds ?len (fun cdv Ar outer s H E hr =>
      (bx_cons (sx_if (dt_not (dt_truth (d_callB (c_all rfl) T.b_all (by decide +kernel) (da_cons (d_lc [("deed", 1)] rfl sc_look_deeds.nd (di_list (d_var 0)) (blkOk_by (N := N_look_deeds) (sc := defScope s_look_deeds) (by decide +kernel)) (fun _ _ _ _ _ => (dg_one 1 sc_look_deeds.nd (by first | exact .inl rfl | exact .inr rfl))) (fun _ _ _ _ _ => dts_nil) (fun _ _ _ _ _ => (d_calld T.f_is_deed G_is_deed (hr.mono (by decide)) (da_cons (d_var 1) da_nil)))) da_nil)))) (bx_one (sx_raise (takes_of rfl rfl rfl rfl) T.xc_BadDeed)) (b_of db_nil))
      (bx_one (sx_if (dt_cmp (o_lt hr.units0) (d_lenSet T.b_len T.b_set hr (d_lc [("deed", 1)] rfl sc_look_deeds.nd (di_list (d_var 0)) (blkOk_by (N := N_look_deeds) (sc := defScope s_look_deeds) (by decide +kernel)) (fun _ _ _ _ _ => (dg_one 1 sc_look_deeds.nd (by first | exact .inl rfl | exact .inr rfl))) (fun _ _ _ _ _ => dts_nil) (fun _ _ _ _ _ => (d_sl (d_var 1) do_none (do_some d_int))))) (d_lenSet T.b_len T.b_set hr (d_var 0))) (bx_one (sx_raise (takes_of rfl rfl rfl rfl) T.xc_BadDeed)) (b_of db_nil))))) ?read
  case len => rintro ds M Φ Ξ ⟨d, rest, rs, rfl, hl, _⟩; simpa using hl
  case read =>
    rintro ds M Φ Ξ ⟨d, rest, rs, rfl, hl, nw, ok, bad, h⟩
    obtain rfl := List.length_eq_zero_iff.mp hl
    walk_at "rd"
    refine lc_all rs rawD (fun r => .bl (deedB r)) (size_le (m := 64) (Nat.le_of_lt ok.few)) (fun Ψ h => ?_) (fun r hr => ⟨_, rfl, fun Φ' h' => ?_⟩) ?_
    · walk_at "rd"
      exact ⟨_, nw, h _ nw⟩
    · walk_at "rd"
      exact ⟨r, rfl, ok.short r hr, h'⟩
    refine ⟨rs.map deedB, by rw [List.map_map]; rfl, fun z => FinX.pure h, fun z => ?_⟩
    rw [List.all_map, List.all_eq_true] at z
    have ok2 : ∀ r, r ∈ rs → deedB r = true := fun r hr => z r hr
    have hx : ∀ r, r ∈ rs → rawD r = r.1.d := fun r hr => by
      have := ok2 r hr
      obtain ⟨x, old⟩ := r
      cases old with
      | true => cases this
      | false => rfl
    rcases bad with ⟨r, hr, e⟩ | ⟨r, s, hr, hs, e1, e2⟩
    · rw [ok2 r hr] at e
      cases e
    have em : rs.map rawD = (rs.map (·.1)).map Dd.d := by
      rw [List.map_map]
      exact List.map_congr_left fun r hr => hx r hr
    rw [em] at nw
    refine lc_all (rs.map (·.1)) Dd.d (fun x => Ky.d x.key) (size_le (m := 64) (by rw [List.length_map]; exact Nat.le_of_lt ok.few)) (fun Ψ h => ?_) (fun x hx => ⟨_, rfl, fun Φ' h' => ?_⟩) ?_
    · walk_at "rd"
      exact ⟨_, nw, h _ nw⟩
    · walk_at "rd"
      exact h'
    refine ⟨_, .self _, by simpa using ok.few, .inl fun d hd => ?_, fun n hn => ⟨_, nw, by simpa using ok.few, .inl fun d hd => ?_, fun m hm => yesP ?_ (FinX.pure h)⟩⟩
    · obtain ⟨x, _, rfl⟩ := List.mem_map.mp hd
      exact setkey_key _
    · obtain ⟨x, _, rfl⟩ := List.mem_map.mp hd
      exact setkey_dd x
    · have hn' : IsCard (((rs.map (·.1)).map Dd.d).map head2) n := by rw [List.map_map]; exact hn
      have := hm.less hn' (a := r.1.d) (b := s.1.d) (List.mem_map.mpr ⟨_, List.mem_map.mpr ⟨r, hr, rfl⟩, rfl⟩) (List.mem_map.mpr ⟨_, List.mem_map.mpr ⟨s, hs, rfl⟩, rfl⟩) (fun z => e2 (dd_inj z)) (by rw [head2_dd, head2_dd, e1])
      omega
end
end NF
namespace NF
open PySem L2
local macro_rules | `(tactic| walk_at "rd") => `(tactic| simp only [wDrop, wRet, wSet, wIfS, wDPut, wFld, wSetFld, wCall, wCB, wMake, wVar, wC, wOp, wTest, wChain, wAndV, wOrV, wNotV, wAnd, wOr, wNot, wIf, wTruth, wNil, wCons, wTup, wLst, wLstO, wDict, aInt, aIntC, ix_tup, ix_lst, ix_str, ix_scr, len_lst, len_tup, len_scr, len_str, add_int, add_str, add_tup, add_lst, sl_tup, sl_lst, tru_bl, tru_non, tru_int, tru_lst, tru_tup, tru_scr, ex_key, sl_dd, ix_dd0, ix_dd2, eqk_word, eqk_new, eqk_name, eqk_worth, eqk_drop, w_nn, w_wn, w_dn, w_nd, w_wd, w_wm, w_dm, w_dw, w_nw, wSl, wNoPart, wPart, wSeq, wNext, wNever, wCont, wBreak, wNeg, wYes, wIter, wIterT, wIterS, wRng1, wLenSet, wDGet, wDIn, wKeys, wVals, aEq, aNe, aAll, aNotInK, lt_int, ge_key, List.cons.injEq, D.op.injEq, V.ref.injEq, Option.isSome_some, Option.isSome_none, aInSign, Tg.put, putAll, gwipe,
  now_int, now_str, now_tup, now_lst, now_non, now_bl, eqk_int, eqk_non, eqk_key, eqb_int, eqb_str, eqb_key, atI_0, atI_1, atI_2, atI_3, atI_4, atI_last, cut_2, List.take_succ_cons, List.take_zero, true_and, and_true, if_true,
  startD, List.map_cons, List.map_nil, List.length_cons, List.length_nil, List.cons_append, List.nil_append, List.replicate, List.getElem?_cons_zero, List.getElem?_cons_succ, List.set_cons_zero, List.set_cons_succ, Option.some.injEq, exists_eq_left, exists_eq_left', D.int.injEq, D.str.injEq, D.bl.injEq, D.tup.injEq, D.lst.injEq, exists_and_left, exists_and_right, Nat.reduceAdd, Nat.reduceSub, Int.cast_ofNat_Int, Bool.false_eq_true, false_imp_iff, true_imp_iff, reduceCtorEq, decide_eq_true_eq, decide_eq_false_iff_not, decide_true, decide_false, not_true_eq_false, not_false_eq_true, Bool.not_true, Bool.not_false, Bool.not_eq_true', Bool.not_eq_false', ne_eq, and_self, implies_true, ↓reduceIte])
local macro_rules | `(tactic| walk_at "rdd") => `(tactic| simp only [wDrop, wRet, wSet, wIfS, wDPut, wFld, wSetFld, wCall, wCB, wMake, wVar, wC, wOp, wTest, wChain, wAndV, wOrV, wNotV, wAnd, wOr, wNot, wIf, wTruth, wNil, wCons, wTup, wLst, wLstO, wDict, aInt, aIntC, ix_tup, ix_lst, ix_str, ix_scr, len_lst, len_tup, len_scr, len_str, add_int, add_str, add_tup, add_lst, sl_tup, sl_lst, tru_bl, tru_non, tru_int, tru_lst, tru_tup, tru_scr, ex_key, Dd.d, Dd.key, Dd.word, Dd.tl, eqk_new, eqk_name, eqk_worth, eqk_drop, w_nn, w_wn, w_dn, w_nd, w_wd, w_wm, w_dm, w_dw, w_nw, wSl, wNoPart, wPart, wSeq, wNext, wNever, wCont, wBreak, wNeg, wYes, wIter, wIterT, wIterS, wRng1, wLenSet, wDGet, wDIn, wKeys, wVals, aEq, aNe, aAll, aNotInK, lt_int, ge_key, List.cons.injEq, D.op.injEq, V.ref.injEq, Option.isSome_some, Option.isSome_none, aInSign, Tg.put, putAll, gwipe,
  now_int, now_str, now_tup, now_lst, now_non, now_bl, eqk_int, eqk_non, eqk_key, eqb_int, eqb_str, eqb_key, atI_0, atI_1, atI_2, atI_3, atI_4, atI_last, cut_2, List.take_succ_cons, List.take_zero, true_and, and_true, if_true,
  startD, List.map_cons, List.map_nil, List.length_cons, List.length_nil, List.cons_append, List.nil_append, List.replicate, List.getElem?_cons_zero, List.getElem?_cons_succ, List.set_cons_zero, List.set_cons_succ, Option.some.injEq, exists_eq_left, exists_eq_left', D.int.injEq, D.str.injEq, D.bl.injEq, D.tup.injEq, D.lst.injEq, exists_and_left, exists_and_right, Nat.reduceAdd, Nat.reduceSub, Int.cast_ofNat_Int, Bool.false_eq_true, false_imp_iff, true_imp_iff, reduceCtorEq, decide_eq_true_eq, decide_eq_false_iff_not, decide_true, decide_false, not_true_eq_false, not_false_eq_true, Bool.not_true, Bool.not_false, Bool.not_eq_true', Bool.not_eq_false', ne_eq, and_self, implies_true, ↓reduceIte])
def J_in_order (d : D) (xs : List Dd) (p : Addr) (M : Mp) (i : Nat) (Γ' : Ctx) (M' : Mp) : Prop := ∃ v u, Γ' = [some d, some (.op (.ref p)), v, u] ∧ M' = (p, MO.dic (kvOf Dd.key Dd.d (uniq (xs.take i)))) :: M
def J_all1 (d : D) (xs : List Dd) (C p : Addr) (M : Mp) (i : Nat) (Γ' : Ctx) (M' : Mp) : Prop := ∃ v u l, Γ' = [some d, some (.op (.ref p)), some (.lst ((ordd xs).map Dd.d)), v, u] ∧
  M' = insL C l ++ (p, MO.dic (kvOf (fun q : Addr × Rc => q.2.key) (fun q => .op (.ref q.1)) l)) :: M ∧ l.map (·.2) = ((ordd xs).take i).filterMap made ∧ ∀ q, q ∈ l → q.1 ∉ dom M
def J_all2 (d : D) (xs : List Dd) (C p : Addr) (M : Mp) (i : Nat) (Γ' : Ctx) (M' : Mp) : Prop := ∃ v u l, Γ' = [some d, some (.op (.ref p)), some (.lst ((ordd xs).map Dd.d)), v, u] ∧
  M' = insL C l ++ (p, MO.dic (kvOf (fun q : Addr × Rc => q.2.key) (fun q => .op (.ref q.1)) l)) :: M ∧ l.map (·.2) = ((ordd xs).filterMap made).map (rowsAt ((ordd xs).take i)) ∧ ∀ q, q ∈ l → q.1 ∉ dom M
theorem J2_put {d : D} {xs : List Dd} (g : Good xs) {C p : Addr} {M : Mp} {i : Nat} {v u : Option D} {l₁ l₂ : List (Addr × Rc)} {ad : Addr} {r : Rc} {x : Dd} {fs : List (Str × D)} (hx : (ordd xs)[i]? = some x)
    (hl : (l₁ ++ (ad, r) :: l₂).map (·.2) = ((ordd xs).filterMap made).map (rowsAt ((ordd xs).take i))) (hd : ∀ q, q ∈ l₁ ++ (ad, r) :: l₂ → q.1 ∉ dom M) (h : x.at_ = some r.key) (e : fs = flds (upd1 r x)) :
    J_all2 d xs C p M (i + 1) [some d, some (.op (.ref p)), some (.lst ((ordd xs).map Dd.d)), v, u] (insL C l₂ ++ (ad, MO.ins C fs) :: (insL C l₁ ++ (p, MO.dic (kvOf (fun q : Addr × Rc => q.2.key) (fun q => .op (.ref q.1)) (l₁ ++ (ad, r) :: l₂))) :: M)) := by
  refine ⟨v, u, l₁ ++ (ad, upd1 r x) :: l₂, rfl, ?_, ?_, ?_⟩
  · rw [insL_in, kv_at l₁ l₂ ad (upd1 r x) r (upd1_key r x), e]
  · rw [take_more hx, rows_snoc]
    exact upd_one hl (rows_keys g _) h
  · intro q hq
    rcases List.mem_append.mp hq with m | m
    · exact hd q (List.mem_append_left _ m)
    · rcases List.mem_cons.mp m with m | m
      · rw [m]; exact hd (ad, r) (by simp)
      · exact hd q (by simp [m])
section
variable {P : Program} {w : World} {K : PySem.W.Frag} {mg : Str → Option Value} {base : Heap} {A : Ad} (T : Tx K w mg A)
include T
def sp_in_order : ASp := fun ds M Φ => ∃ (d : D) (xs : List Dd), ds = [d] ∧ Now M d (.lst (xs.map Dd.d)) ∧ Good xs ∧ Φ (.lst ((ordd xs).map Dd.d)) M
theorem ok_in_order  : OkD P w K mg base A.in_order A.d_in_order ["deeds"] 1 (sp_in_order) := by
  refine def_ok T.f_in_order.F sc_in_order ?len (fun cdv Ar outer s H E hr =>
      (db_cons (ds_set 1 sc_in_order.nd (.inr rfl) d_dict)
      (db_cons (ds_for PassesOwn.never rfl (di_list (d_var 0)) (dg_one 2 sc_in_order.nd (.inl rfl))
      (db_one (ds_dput (hu_of hr) (d_var 1) (d_sl (d_var 2) do_none (do_some d_int)) (d_var 2))))
      (db_one (ds_ret (d_lc [("key", 3)] rfl sc_in_order.nd (di_list (d_sortedKeys T.b_sorted hr (d_var 1))) (blkOk_by (N := N_in_order) (sc := defScope s_in_order) (by decide +kernel)) (fun _ _ _ _ _ => (dg_one 3 sc_in_order.nd (by first | exact .inl rfl | exact .inr rfl))) (fun _ _ _ _ _ => dts_nil) (fun _ _ _ _ _ => (d_dget (hu_of hr) (d_var 1) (d_var 3))))))))) ?read
  case len => rintro ds M Φ ⟨d, xs, rfl, _⟩; rfl
  case read =>
    rintro ds M Φ ⟨d, xs, rfl, nw, g, h⟩
    walk_at "rd"
    intro p hp
    refine for_typed xs Dd.d (fun M' => Now M' d (.lst (xs.map Dd.d))) (J_in_order d xs p M) (fun Ψ h => ?_) ⟨_, _, rfl, rfl⟩ ?_ ?_ ?_
    · walk_at "rd"
      exact ⟨_, nw.cons _, h⟩
    · rintro i Γ' M' ⟨v, u, rfl, rfl⟩
      exact nw.cons _
    · rintro i x Γ' M' hx ⟨v, u, rfl, rfl⟩
      have mx := List.mem_of_getElem? hx
      have few := g.few
      have lt : (uniq (xs.take i)).length < 64 := Nat.lt_of_le_of_lt uniq_len (Nat.lt_of_le_of_lt (by simp; omega) few)
      refine ⟨_, rfl, ?_⟩
      walk_at "rd"
      refine ⟨kk x.key, rfl, _, [], _, rfl, by simp [kvOf, sizeLine_eq]; omega, _, _, rfl, ?_⟩
      rw [put_uniq g (fun y hy => List.mem_of_mem_take hy) mx, List.take_succ, hx]
      rfl
    · rintro Γ' M' ⟨v, u, rfl, rfl⟩
      rw [List.take_length]
      walk_at "rd"
      have lt : (ordd xs).length < 64 := by have := uniq_len (l := xs); have := g.few; rw [(ordd_perm xs).length_eq]; omega
      refine lc_all (ordd xs) (fun x => Ky.d x.key) Dd.d (size_le (m := 64) (Nat.le_of_lt lt)) (fun Ψ h => ?_) (fun x hx => ⟨_, rfl, fun Φ' h' => ?_⟩) ?_
      · walk_at "rd"
        refine ⟨_, .own (List.mem_cons_self ..), by rw [keys_kv]; exact sortOk_key _, ?_⟩
        rw [keys_kv, sorted_keys]
        exact h _ trivial
      · walk_at "rd"
        exact ⟨kk x.key, rfl, _, .own (List.mem_cons_self ..), _, look_kv (mem_uniq.mpr (mem_ordd.mp hx)) fun y hy e => g.one y x (mem_uniq.mp hy) (mem_ordd.mp hx) e, h'⟩
      · exact Fin.lose (List.sublist_cons_self _ _) h
def sp_in_orderO : ASp := fun ds M Φ => ∃ (d : D) (xs : List Dd), ds = [d] ∧ Now M d (.lst (xs.map Dd.d)) ∧ Good xs ∧ ∀ p, p ∉ dom M → Φ (.op (.ref p)) ((p, MO.lst ((ordd xs).map Dd.d)) :: M)
theorem ok_in_orderO  : OkD P w K mg base A.in_order A.d_in_order ["deeds"] 1 (sp_in_orderO) := by
  refine def_ok T.f_in_order.F sc_in_order ?len (fun cdv Ar outer s H E hr =>
      (db_cons (ds_set 1 sc_in_order.nd (.inr rfl) d_dict)
      (db_cons (ds_for PassesOwn.never rfl (di_list (d_var 0)) (dg_one 2 sc_in_order.nd (.inl rfl))
      (db_one (ds_dput (hu_of hr) (d_var 1) (d_sl (d_var 2) do_none (do_some d_int)) (d_var 2))))
      (db_one (ds_ret (d_lcO [("key", 3)] rfl sc_in_order.nd (di_list (d_sortedKeys T.b_sorted hr (d_var 1))) (blkOk_by (N := N_in_order) (sc := defScope s_in_order) (by decide +kernel)) (fun _ _ _ _ _ => (dg_one 3 sc_in_order.nd (by first | exact .inl rfl | exact .inr rfl))) (fun _ _ _ _ _ => dts_nil) (fun _ _ _ _ _ => (d_dget (hu_of hr) (d_var 1) (d_var 3))))))))) ?read
  case len => rintro ds M Φ ⟨d, xs, rfl, _⟩; rfl
  case read =>
    rintro ds M Φ ⟨d, xs, rfl, nw, g, h⟩
    walk_at "rd"
    intro p hp
    refine for_typed xs Dd.d (fun M' => Now M' d (.lst (xs.map Dd.d))) (J_in_order d xs p M) (fun Ψ h => ?_) ⟨_, _, rfl, rfl⟩ ?_ ?_ ?_
    · walk_at "rd"
      exact ⟨_, nw.cons _, h⟩
    · rintro i Γ' M' ⟨v, u, rfl, rfl⟩
      exact nw.cons _
    · rintro i x Γ' M' hx ⟨v, u, rfl, rfl⟩
      have mx := List.mem_of_getElem? hx
      have few := g.few
      have lt : (uniq (xs.take i)).length < 64 := Nat.lt_of_le_of_lt uniq_len (Nat.lt_of_le_of_lt (by simp; omega) few)
      refine ⟨_, rfl, ?_⟩
      walk_at "rd"
      refine ⟨kk x.key, rfl, _, [], _, rfl, by simp [kvOf, sizeLine_eq]; omega, _, _, rfl, ?_⟩
      rw [put_uniq g (fun y hy => List.mem_of_mem_take hy) mx, List.take_succ, hx]
      rfl
    · rintro Γ' M' ⟨v, u, rfl, rfl⟩
      rw [List.take_length]
      walk_at "rd"
      have lt : (ordd xs).length < 64 := by have := uniq_len (l := xs); have := g.few; rw [(ordd_perm xs).length_eq]; omega
      refine lc_allO (ordd xs) (fun x => Ky.d x.key) Dd.d (size_le (m := 64) (Nat.le_of_lt lt)) (fun Ψ h => ?_) (fun x hx => ⟨_, rfl, fun Φ' h' => ?_⟩) ?_
      · walk_at "rd"
        refine ⟨_, .own (List.mem_cons_self ..), by rw [keys_kv]; exact sortOk_key _, ?_⟩
        rw [keys_kv, sorted_keys]
        exact h _ trivial
      · walk_at "rd"
        exact ⟨kk x.key, rfl, _, .own (List.mem_cons_self ..), _, look_kv (mem_uniq.mpr (mem_ordd.mp hx)) fun y hy e => g.one y x (mem_uniq.mp hy) (mem_ordd.mp hx) e, h'⟩
      · intro q hq
        exact Fin.lose (List.Sublist.cons₂ _ (List.sublist_cons_self _ _)) (h q fun z => hq (by simp [dom] at z ⊢; exact .inr z))
/-- a new row -/
def sp_Row___init__ (C : Addr) : ASp := fun ds M Φ => ∃ (x : Addr) (k : Ky) (n : Str) (v : Int) (U V : Mp), ds = [.op (.ref x), Ky.d k, .str n, .int v] ∧ M = U ++ (x, MO.ins C []) :: V ∧ Φ .non (U ++ (x, MO.ins C (flds ⟨k, n, k, v, false⟩)) :: V)
theorem ok_Row___init__  : OkD P w K mg base A.Row___init__ A.d_Row___init__ ["self", "key", "name", "worth"] 1 (sp_Row___init__ A.Row) := by
  refine def_ok T.f_Row___init__.F sc_Row___init__ ?len (fun cdv Ar outer s H E hr =>
      (db_cons (ds_fld T.cl_Row T.n_Row_key (d_var 0) (d_var 1))
      (db_cons (ds_fld T.cl_Row T.n_Row_name (d_var 0) (d_var 2))
      (db_cons (ds_fld T.cl_Row T.n_Row_since (d_var 0) (d_var 1))
      (db_cons (ds_fld T.cl_Row T.n_Row_worth (d_var 0) (d_var 3))
      (db_one (ds_fld T.cl_Row T.n_Row_is_dropped (d_var 0) d_bl))))))) ?read
  case len => rintro ds M Φ ⟨x, k, n, v, U, V, rfl, _⟩; rfl
  case read =>
    rintro ds M Φ ⟨x, k, n, v, U, V, rfl, rfl, h⟩
    walk_at "rd"
    refine ⟨_, _, _, rfl, by simp, _, _, _, rfl, ?_, _, _, _, rfl, ?_, _, _, _, rfl, ?_, _, _, _, rfl, ?_, ?_⟩
    · have h1 := putD_len ("key" : Str) (Ky.d k) []
      exact Nat.lt_of_le_of_lt h1 (by decide)
    · have h1 := putD_len ("key" : Str) (Ky.d k) []
      have h2 := putD_len ("name" : Str) (.str n) (putD "key" (Ky.d k) [])
      simp only [List.length_nil] at h1
      omega
    · have h1 := putD_len ("key" : Str) (Ky.d k) []
      have h2 := putD_len ("name" : Str) (.str n) (putD "key" (Ky.d k) [])
      have h3 := putD_len ("since" : Str) (Ky.d k) (putD "name" (.str n) (putD "key" (Ky.d k) []))
      simp only [List.length_nil] at h1
      omega
    · have h1 := putD_len ("key" : Str) (Ky.d k) []
      have h2 := putD_len ("name" : Str) (.str n) (putD "key" (Ky.d k) [])
      have h3 := putD_len ("since" : Str) (Ky.d k) (putD "name" (.str n) (putD "key" (Ky.d k) []))
      have h4 := putD_len ("worth" : Str) (.int v) (putD "since" (Ky.d k) (putD "name" (.str n) (putD "key" (Ky.d k) [])))
      simp only [List.length_nil] at h1
      omega
    · rw [p_init]
      exact Fin.pure h
def sp_all_rows (C : Addr) : ASp := fun ds M Φ => ∃ (d : D) (xs : List Dd), ds = [d] ∧ Now M d (.lst (xs.map Dd.d)) ∧ Good xs ∧ Φ (.dic ((rows xs).map fun r => kk r.key) ((rows xs).map (rcd C))) M
theorem ok_all_rows (G_in_order : OkD P w K mg base A.in_order A.d_in_order ["deeds"] 1 (sp_in_order)) (G_Row___init__ : OkD P w K mg base A.Row___init__ A.d_Row___init__ ["self", "key", "name", "worth"] 1 (sp_Row___init__ A.Row)) : OkD P w K mg base A.all_rows A.d_all_rows ["deeds"] 3 (sp_all_rows A.Row) := by
  refine def_ok T.f_all_rows.F sc_all_rows ?len (fun cdv Ar outer s H E hr =>
      (db_cons (ds_set 1 sc_all_rows.nd (.inl rfl) d_dict)
      (db_cons (ds_set 2 sc_all_rows.nd (.inl rfl) (d_calld T.f_in_order G_in_order (hr.mono (by decide)) (da_cons (d_var 0) da_nil)))
      (db_cons (ds_for PassesOwn.never rfl (di_list (d_var 2)) (dg_one 3 sc_all_rows.nd (.inl rfl))
      (db_one (ds_if (dt_cmp (o_eq hr.units) (d_ix (d_var 3) d_int) d_str) (db_one (ds_dput (hu_of hr) (d_var 1) (d_sl (d_var 3) do_none (do_some d_int)) (d_make T.mk_Row G_Row___init__ (hr.mono (by decide)) T.g_Row T.f_Row___init__.b (da_cons (d_sl (d_var 3) do_none (do_some d_int)) (da_cons (d_ix (d_var 3) d_int) (da_cons (d_ix (d_var 3) d_int) da_nil)))))) db_nil)))
      (db_cons (ds_for PassesOwn.never rfl (di_list (d_var 2)) (dg_one 3 sc_all_rows.nd (.inl rfl))
      (db_one (ds_if (PW.pt (dw_and (dt_cmp (o_ne hr.units) (d_ix (d_var 3) d_int) d_str) (dw_and1 (dt_din (hu_of hr) (d_ix (d_var 3) d_int) (d_var 1))))) (db_cons (ds_set 4 sc_all_rows.nd (.inl rfl) (d_dget (hu_of hr) (d_var 1) (d_ix (d_var 3) d_int)))
      (db_one (ds_if (dt_cmp (o_eq hr.units) (d_ix (d_var 3) d_int) d_str) (db_cons (ds_fld T.cl_Row T.n_Row_since (d_var 4) (d_if (dt_cmp (o_eq hr.units) (d_fld T.cl_Row T.n_Row_name (d_var 4)) (d_ix (d_var 3) d_int)) (d_fld T.cl_Row T.n_Row_since (d_var 4)) (d_sl (d_var 3) do_none (do_some d_int))))
      (db_one (ds_fld T.cl_Row T.n_Row_name (d_var 4) (d_ix (d_var 3) d_int)))) (db_one (ds_if (dt_cmp (o_eq hr.units) (d_ix (d_var 3) d_int) d_str) (db_one (ds_fld T.cl_Row T.n_Row_worth (d_var 4) (d_ix (d_var 3) d_int))) (db_one (ds_fld T.cl_Row T.n_Row_is_dropped (d_var 4) d_bl))))))) db_nil)))
      (db_one (ds_ret (d_var 1)))))))) ?read
  case len => rintro ds M Φ ⟨d, xs, rfl, _⟩; rfl
  case read =>
    rintro ds M Φ ⟨d, xs, rfl, nw, g, h⟩
    have lto : (ordd xs).length < 64 := g.ordd.few
    walk_at "rd"
    intro p hp
    refine ⟨d, xs, rfl, nw.cons _, g, ?_⟩
    refine for_typed (ordd xs) Dd.d (fun _ => True) (J_all1 d xs A.Row p M) (fun Ψ h => ?_) ⟨none, none, [], rfl, rfl, rfl, fun q hq => (by cases hq)⟩ (fun _ _ _ _ => trivial) ?_ ?_
    · walk_at "rd"
      exact h
    · rintro i x Γ' M' hx ⟨v, u, l, rfl, rfl, hl, hd⟩
      refine ⟨_, rfl, ?_⟩
      have mx := List.mem_of_getElem? hx
      cases x with
      | new k n z =>
        walk_at "rdd"
        intro y hy
        have len : l.length ≤ i := by
          have e := congrArg List.length hl
          have h1 := made_len ((ordd xs).take i)
          rw [List.length_take] at h1
          simp only [List.length_map] at e
          omega
        have hi := (List.getElem?_eq_some_iff.mp hx).1
        have ne : ∀ q, q ∈ l → q.2.key ≠ k := fun q hq e => by
          have mq : q.2 ∈ ((ordd xs).take i).filterMap made := by rw [← hl]; exact List.mem_map.mpr ⟨q, hq, rfl⟩
          obtain ⟨z', hz, e2⟩ := List.mem_filterMap.mp mq
          have := g.ordd.one z' _ (List.mem_of_mem_take hz) mx (by rw [← (made_key e2).1]; exact e)
          exact not_taken (ordd_nodup xs) hx (this ▸ hz)
        have pn := put_new (f := fun q : Addr × Rc => q.2.key) (v := fun q => D.op (.ref q.1)) (x := (y, ⟨k, n, k, z, false⟩)) (l := l) ne
        refine ⟨y, k, n, z, [], _, rfl, rfl, rfl, kk k, rfl, _, (y, MO.ins A.Row (flds ⟨k, n, k, z, false⟩)) :: insL A.Row l, M, rfl, by simp [kvOf, sizeLine_eq]; omega, _, _, l ++ [(y, ⟨k, n, k, z, false⟩)], rfl, ?_, ?_, ?_⟩
        · rw [insL_snoc, ← pn]
        · rw [List.map_append, hl, take_more hx, List.filterMap_append]
          rfl
        · intro q hq
          rcases List.mem_append.mp hq with m | m
          · exact hd q m
          · rw [List.mem_singleton.mp m]
            exact fun m2 => hy (by rw [dom_insL]; exact List.mem_append_right _ (List.mem_cons_of_mem _ m2))
      | name k a n =>
        walk_at "rdd"
        exact ⟨_, _, l, rfl, rfl, by rw [hl, take_more hx, List.filterMap_append]; simp [made], hd⟩
      | worth k a n =>
        walk_at "rdd"
        exact ⟨_, _, l, rfl, rfl, by rw [hl, take_more hx, List.filterMap_append]; simp [made], hd⟩
      | drop k a =>
        walk_at "rdd"
        exact ⟨_, _, l, rfl, rfl, by rw [hl, take_more hx, List.filterMap_append]; simp [made], hd⟩
    · rintro Γ' M' ⟨v, u, l, rfl, rfl, hl, hd⟩
      walk_at "rd"
      refine for_typed (ordd xs) Dd.d (fun _ => True) (J_all2 d xs A.Row p M) (fun Ψ h => ?_) ⟨v, u, l, rfl, rfl, ?_, hd⟩ (fun _ _ _ _ => trivial) ?_ ?_
      · walk_at "rd"
        exact h
      · rw [hl, List.take_length, List.take_zero]
        exact (List.map_id' _).symm
      · rintro i x Γ' M' hx ⟨v, u, l, rfl, rfl, hl, hd⟩
        refine ⟨_, rfl, ?_⟩
        have mx := List.mem_of_getElem? hx
        cases x with
        | new k n z =>
          walk_at "rdd"
          exact ⟨_, _, l, rfl, rfl, by rw [take_more hx, rows_snoc, ← hl]; exact upd_none fun q _ => by simp [Dd.at_], hd⟩
        | name k a n =>
          walk_at "rdd"
          refine ⟨kk a, rfl, kvOf (fun q : Addr × Rc => q.2.key) (fun q => D.op (.ref q.1)) l, .own (List.mem_append_right _ (List.mem_cons_self ..)), ?_⟩
          have nd : ((l.map (·.2)).map Rc.key).Nodup := by rw [hl]; exact rows_keys g _
          by_cases ex : ∃ q, q ∈ l ∧ q.2.key = a
          · obtain ⟨l₁, ad, r, l₂, rfl, rfl⟩ := split_at ex
            have mr : (ad, MO.ins A.Row (flds r)) ∈ insL A.Row (l₁ ++ (ad, r) :: l₂) := mem_insL (by simp)
            have okr : r.ok := rows_ok g (fun y hy => List.mem_of_mem_take hy) (by rw [← hl]; simp)
            rw [look_at rfl nd]
            walk_at "rdd"
            refine ⟨kk r.key, rfl, _, .own (List.mem_append_right _ (List.mem_cons_self ..)), _, look_at rfl nd, ?_⟩
            walk_at "rdd"
            refine ⟨_, .own (List.mem_append_left _ mr), _, f_name r, ?_⟩
            walk_at "rdd"
            refine ⟨eqk_str (nameOk_str okr.2.1), eqk_str (nameOk_str (g.ordd.ok _ mx).2.2.2), fun en => ?_, fun en => ?_⟩
            · refine ⟨_, .own (List.mem_append_left _ mr), _, f_since r, _, _, _, insL_in, by simp [flds], _, _, _, rfl, ?_, J2_put g hx hl hd rfl ?_⟩
              · rw [p_since]; simp [flds]
              · rw [p_since, p_name]; simp [upd1, en]
            · refine ⟨_, _, _, insL_in, by simp [flds], _, _, _, rfl, ?_, J2_put g hx hl hd rfl ?_⟩
              · rw [p_since r k]; simp [flds]
              · rw [p_since r k, p_name]; simp [upd1, en]
          · have no : lookA (kvOf (fun q : Addr × Rc => q.2.key) (fun q => D.op (.ref q.1)) l) (kk a) = none := look_no fun q hq e => ex ⟨q, hq, e⟩
            rw [no]
            walk_at "rdd"
            exact ⟨_, _, l, rfl, rfl, by rw [take_more hx, rows_snoc, ← hl]; exact upd_none fun q hq e => ex ⟨q, hq, (Option.some.inj e).symm⟩, hd⟩
        | worth k a n =>
          walk_at "rdd"
          refine ⟨kk a, rfl, kvOf (fun q : Addr × Rc => q.2.key) (fun q => D.op (.ref q.1)) l, .own (List.mem_append_right _ (List.mem_cons_self ..)), ?_⟩
          have nd : ((l.map (·.2)).map Rc.key).Nodup := by rw [hl]; exact rows_keys g _
          by_cases ex : ∃ q, q ∈ l ∧ q.2.key = a
          · obtain ⟨l₁, ad, r, l₂, rfl, rfl⟩ := split_at ex
            have mr : (ad, MO.ins A.Row (flds r)) ∈ insL A.Row (l₁ ++ (ad, r) :: l₂) := mem_insL (by simp)
            have okr : r.ok := rows_ok g (fun y hy => List.mem_of_mem_take hy) (by rw [← hl]; simp)
            rw [look_at rfl nd]
            walk_at "rdd"
            refine ⟨kk r.key, rfl, _, .own (List.mem_append_right _ (List.mem_cons_self ..)), _, look_at rfl nd, ?_⟩
            walk_at "rdd"
            exact ⟨_, _, _, insL_in, by simp [flds], J2_put g hx hl hd rfl (by rw [p_worth]; simp [upd1])⟩
          · have no : lookA (kvOf (fun q : Addr × Rc => q.2.key) (fun q => D.op (.ref q.1)) l) (kk a) = none := look_no fun q hq e => ex ⟨q, hq, e⟩
            rw [no]
            walk_at "rdd"
            exact ⟨_, _, l, rfl, rfl, by rw [take_more hx, rows_snoc, ← hl]; exact upd_none fun q hq e => ex ⟨q, hq, (Option.some.inj e).symm⟩, hd⟩
        | drop k a =>
          walk_at "rdd"
          refine ⟨kk a, rfl, kvOf (fun q : Addr × Rc => q.2.key) (fun q => D.op (.ref q.1)) l, .own (List.mem_append_right _ (List.mem_cons_self ..)), ?_⟩
          have nd : ((l.map (·.2)).map Rc.key).Nodup := by rw [hl]; exact rows_keys g _
          by_cases ex : ∃ q, q ∈ l ∧ q.2.key = a
          · obtain ⟨l₁, ad, r, l₂, rfl, rfl⟩ := split_at ex
            have mr : (ad, MO.ins A.Row (flds r)) ∈ insL A.Row (l₁ ++ (ad, r) :: l₂) := mem_insL (by simp)
            have okr : r.ok := rows_ok g (fun y hy => List.mem_of_mem_take hy) (by rw [← hl]; simp)
            rw [look_at rfl nd]
            walk_at "rdd"
            refine ⟨kk r.key, rfl, _, .own (List.mem_append_right _ (List.mem_cons_self ..)), _, look_at rfl nd, ?_⟩
            walk_at "rdd"
            exact ⟨_, _, _, insL_in, by simp [flds], J2_put g hx hl hd rfl (by rw [p_gone]; simp [upd1])⟩
          · have no : lookA (kvOf (fun q : Addr × Rc => q.2.key) (fun q => D.op (.ref q.1)) l) (kk a) = none := look_no fun q hq e => ex ⟨q, hq, e⟩
            rw [no]
            walk_at "rdd"
            exact ⟨_, _, l, rfl, rfl, by rw [take_more hx, rows_snoc, ← hl]; exact upd_none fun q hq e => ex ⟨q, hq, (Option.some.inj e).symm⟩, hd⟩
      · rintro Γ' M' ⟨v, u, l, rfl, rfl, hl, hd⟩
        walk_at "rd"
        have e : l.map (·.2) = rows xs := by rw [hl, List.take_length]; rfl
        rw [← e, List.map_map, List.map_map] at h
        exact Fin.rows hp hd h
end
end NF
namespace NF
open PySem L2
local macro_rules | `(tactic| walk_at "rd") => `(tactic| simp only [wDrop, wRet, wSet, wIfS, wDPut, wFld, wSetFld, wCall, wCB, wMake, wVar, wC, wOp, wTest, wChain, wAndV, wOrV, wNotV, wAnd, wOr, wNot, wIf, wTruth, wNil, wCons, wTup, wLst, wLstO, wDict, aInt, aIntC, ix_tup, ix_lst, ix_str, ix_scr, len_lst, len_tup, len_scr, len_str, add_int, add_str, add_tup, add_lst, sl_tup, sl_lst, tru_bl, tru_non, tru_int, tru_lst, tru_tup, tru_scr, ex_key, sl_dd, ix_dd0, ix_dd2, eqk_word, eqk_new, eqk_name, eqk_worth, eqk_drop, w_nn, w_wn, w_dn, w_nd, w_wd, w_wm, w_dm, w_dw, w_nw, wSl, wNoPart, wPart, wSeq, wNext, wNever, wCont, wBreak, wNeg, wYes, wBM, aAppend, aStr, aIntB, wIter, wIterT, wIterS, wRng1, wLenSet, wDGet, wDIn, wKeys, wVals, aEq, aNe, aAll, aNotInK, lt_int, ge_key, List.cons.injEq, D.op.injEq, V.ref.injEq, Option.isSome_some, Option.isSome_none, aInSign, Tg.put, putAll, gwipe,
  now_int, now_str, now_tup, now_lst, now_non, now_bl, now_opt, eqb_opt, eqb_so, ins_rcd, f_key, f_name, f_since, f_worth, f_gone, eqk_int, eqk_non, eqk_key, eqb_int, eqb_str, eqb_key, atI_0, atI_1, atI_2, atI_3, atI_4, atI_last, cut_2, List.take_succ_cons, List.take_zero, true_and, and_true, if_true,
  startD, List.map_cons, List.map_nil, List.length_cons, List.length_nil, List.cons_append, List.nil_append, List.replicate, List.getElem?_cons_zero, List.getElem?_cons_succ, List.set_cons_zero, List.set_cons_succ, Option.some.injEq, exists_eq_left, exists_eq_left', D.int.injEq, D.str.injEq, D.bl.injEq, D.tup.injEq, D.lst.injEq, exists_and_left, exists_and_right, Nat.reduceAdd, Nat.reduceSub, Int.cast_ofNat_Int, Bool.false_eq_true, false_imp_iff, true_imp_iff, reduceCtorEq, decide_eq_true_eq, decide_eq_false_iff_not, decide_true, decide_false, not_true_eq_false, not_false_eq_true, Bool.not_true, Bool.not_false, Bool.not_eq_true', Bool.not_eq_false', ne_eq, and_self, implies_true, ↓reduceIte])
local macro_rules | `(tactic| walk_at "rdd") => `(tactic| simp only [wDrop, wRet, wSet, wIfS, wDPut, wFld, wSetFld, wCall, wCB, wMake, wVar, wC, wOp, wTest, wChain, wAndV, wOrV, wNotV, wAnd, wOr, wNot, wIf, wTruth, wNil, wCons, wTup, wLst, wLstO, wDict, aInt, aIntC, ix_tup, ix_lst, ix_str, ix_scr, len_lst, len_tup, len_scr, len_str, add_int, add_str, add_tup, add_lst, sl_tup, sl_lst, tru_bl, tru_non, tru_int, tru_lst, tru_tup, tru_scr, ex_key, Dd.d, Dd.key, Dd.word, Dd.tl, eqk_new, eqk_name, eqk_worth, eqk_drop, w_nn, w_wn, w_dn, w_nd, w_wd, w_wm, w_dm, w_dw, w_nw, wSl, wNoPart, wPart, wSeq, wNext, wNever, wCont, wBreak, wNeg, wYes, wBM, aAppend, aStr, aIntB, wIter, wIterT, wIterS, wRng1, wLenSet, wDGet, wDIn, wKeys, wVals, aEq, aNe, aAll, aNotInK, lt_int, ge_key, List.cons.injEq, D.op.injEq, V.ref.injEq, Option.isSome_some, Option.isSome_none, aInSign, Tg.put, putAll, gwipe,
  now_int, now_str, now_tup, now_lst, now_non, now_bl, now_opt, eqb_opt, eqb_so, ins_rcd, f_key, f_name, f_since, f_worth, f_gone, eqk_int, eqk_non, eqk_key, eqb_int, eqb_str, eqb_key, atI_0, atI_1, atI_2, atI_3, atI_4, atI_last, cut_2, List.take_succ_cons, List.take_zero, true_and, and_true, if_true,
  startD, List.map_cons, List.map_nil, List.length_cons, List.length_nil, List.cons_append, List.nil_append, List.replicate, List.getElem?_cons_zero, List.getElem?_cons_succ, List.set_cons_zero, List.set_cons_succ, Option.some.injEq, exists_eq_left, exists_eq_left', D.int.injEq, D.str.injEq, D.bl.injEq, D.tup.injEq, D.lst.injEq, exists_and_left, exists_and_right, Nat.reduceAdd, Nat.reduceSub, Int.cast_ofNat_Int, Bool.false_eq_true, false_imp_iff, true_imp_iff, reduceCtorEq, decide_eq_true_eq, decide_eq_false_iff_not, decide_true, decide_false, not_true_eq_false, not_false_eq_true, Bool.not_true, Bool.not_false, Bool.not_eq_true', Bool.not_eq_false', ne_eq, and_self, implies_true, ↓reduceIte])
def showD (C : Addr) (p : Str × Rc) : D := .tup [.str p.1, rcd C p.2]
def J_named (d : D) (l : List Rc) (C q : Addr) (M : Mp) (i : Nat) (Γ' : Ctx) (M' : Mp) : Prop := ∃ v, Γ' = [some d, some (.op (.ref q)), some (optD (lastN (l.take i))), some (.int (lastC (l.take i))), v] ∧ M' = (q, MO.lst ((shown (l.take i)).map (showD C))) :: M
section
variable {P : Program} {w : World} {K : PySem.W.Frag} {mg : Str → Option Value} {base : Heap} {A : Ad} (T : Tx K w mg A)
include T
def sp_there (C Pt : Addr) : ASp := fun ds M Φ => ∃ (d : D) (xs : List Dd), ds = [d] ∧ Now M d (.lst (xs.map Dd.d)) ∧ Good xs ∧ (Pt, MO.tab lamq) ∈ M ∧ Φ (.lst ((there xs).map (rcd C))) M
theorem ok_there (TB : LamX.TabB base mg A.ct A.Pt) (G_all_rows : OkD P w K mg base A.all_rows A.d_all_rows ["deeds"] 3 (sp_all_rows A.Row)) : OkD P w K mg base A.there A.d_there ["deeds"] 4 (sp_there A.Row A.Pt) := by
  refine def_okC T.lam_there sc_there ?len (fun Ar outer s H E hr =>
      (db_cons (ds_setLc 1 [("one", 2)] rfl sc_there.nd rfl (sw_true rfl rfl rfl (by decide +kernel)) (di_values (d_calld T.f_all_rows G_all_rows (hr.mono (by decide)) (da_cons (d_var 0) da_nil))) (blkOk_by (N := N_there) (sc := defScope s_there) (by decide +kernel)) (fun _ _ _ _ _ => (dg_one 2 sc_there.nd (by first | exact .inl rfl | exact .inr rfl))) (fun _ _ _ _ _ => (dts_one (dt_not (dt_truth (d_fld T.cl_Row T.n_Row_is_dropped (d_var 2)))))) (fun _ _ _ _ _ => (d_var 2)))
      (db_one (ds_ret (d_sortedLam (q := lamq) TB T.cl_Row T.n_Row_name T.n_Row_since T.b_sorted hr (d_var 1)))))) ?read
  case len => rintro ds M Φ ⟨d, xs, rfl, _⟩; rfl
  case read =>
    rintro ds M Φ ⟨d, xs, rfl, nw, g, ht, h⟩
    walk_at "rd"
    have lt : (rows xs).length < 64 := by unfold rows; rw [List.length_map]; exact Nat.lt_of_le_of_lt (made_len _) g.ordd.few
    refine lc_pure (rows xs) (rcd A.Row) (fun r => !r.gone) (rcd A.Row) (size_le (m := 64) (Nat.le_of_lt lt)) (fun Ψ h => ?_) (fun r hr => ⟨_, rfl, fun Ψ h' => ?_, fun _ Φ' h' => ?_⟩) ?_
    · walk_at "rd"
      refine ⟨d, xs, rfl, nw, g, _, _, rfl, by simp, h _ trivial⟩
    · walk_at "rd"
      exact h'
    · walk_at "rd"
      exact h'
    · simp only [wSortLam]
      walk_at "rd"
      refine ⟨ht, kf, lamOk _ _, ?_⟩
      rw [sorted_rcd]
      exact Fin.pure h
def sp_named (C Pt : Addr) : ASp := fun ds M Φ => ∃ (d : D) (xs : List Dd), ds = [d] ∧ Now M d (.lst (xs.map Dd.d)) ∧ Good xs ∧ (Pt, MO.tab lamq) ∈ M ∧ Φ (.lst ((shown (there xs)).map (showD C))) M
theorem ok_named (G_there : OkD P w K mg base A.there A.d_there ["deeds"] 4 (sp_there A.Row A.Pt)) : OkD P w K mg base A.named A.d_named ["deeds"] 5 (sp_named A.Row A.Pt) := by
  refine def_ok T.f_named.F sc_named ?len (fun cdv Ar outer s H E hr =>
      (db_cons (ds_set 1 sc_named.nd (.inl rfl) (d_lstO da_nil))
      (db_cons (ds_set 2 sc_named.nd (.inl rfl) d_non)
      (db_cons (ds_set 3 sc_named.nd (.inl rfl) d_int)
      (db_cons (ds_for PassesOwn.never rfl (di_list (d_calld T.f_there G_there (hr.mono (by decide)) (da_cons (d_var 0) da_nil))) (dg_one 4 sc_named.nd (.inl rfl))
      (db_cons (ds_set 3 sc_named.nd (.inl rfl) (d_if (dt_cmp (o_eq hr.units) (d_fld T.cl_Row T.n_Row_name (d_var 4)) (d_var 2)) (d_op o_add (d_var 3) d_int) d_int))
      (db_cons (ds_set 2 sc_named.nd (.inl rfl) (d_fld T.cl_Row T.n_Row_name (d_var 4)))
      (db_one (ds_expr (d_bm PySem.F.plainAttrs_list PySem.F.slot_list_append PySem.F.type_list_append m_append (d_var 1) (da_cons (d_tup (da_cons (d_if (dt_cmp (o_eq hr.units) (d_var 3) d_int) (d_fld T.cl_Row T.n_Row_name (d_var 4)) (d_op o_add (d_fld T.cl_Row T.n_Row_name (d_var 4)) (d_callTy c_str T.b_str (by decide +kernel) (da_cons (d_var 3) da_nil)))) (da_cons (d_var 4) da_nil))) da_nil)))))))
      (db_one (ds_ret (d_var 1)))))))) ?read
  case len => rintro ds M Φ ⟨d, xs, rfl, _⟩; rfl
  case read =>
    rintro ds M Φ ⟨d, xs, rfl, nw, g, ht, h⟩
    walk_at "rd"
    refine ⟨by simp, fun q hq => ?_⟩
    have lt := there_len g
    refine for_typed (there xs) (rcd A.Row) (fun _ => True) (J_named d (there xs) A.Row q M) (fun Ψ h => ?_) ⟨_, rfl, rfl⟩ (fun _ _ _ _ => trivial) ?_ ?_
    · walk_at "rd"
      refine ⟨d, xs, rfl, nw.cons _, g, List.mem_cons_of_mem _ ht, ?_⟩
      walk_at "rd"
      exact h
    · rintro i r Γ' M' hr ⟨v, rfl, rfl⟩
      refine ⟨_, rfl, ?_⟩
      have mr := List.mem_of_getElem? hr
      have okr := there_ok g mr
      have hi := (List.getElem?_eq_some_iff.mp hr).1
      have ps := sorted_take (there_sorted xs) hr
      have plen : ((there xs).take i).length < 64 := by rw [List.length_take]; omega
      have clt := cnt_lt (n := r.name) plen
      have eo : D.eqOk (optD (lastN ((there xs).take i))) := eqk_opt fun s hs => by
        unfold lastN at hs
        obtain ⟨z, hz, rfl⟩ := Option.map_eq_some_iff.mp hs
        exact nameOk_str (there_ok g (List.mem_of_mem_take (List.mem_of_getLast? hz))).2.1
      walk_at "rd"
      have slen : ((shown ((there xs).take i)).map (showD A.Row)).length < sizeLine := by rw [List.length_map, shown_length, sizeLine_eq]; omega
      have sz2 : 2 ≤ sizeLine := by rw [sizeLine_eq]; decide
      have nlen := okr.2.1.2.1
      refine ⟨eqk_str (nameOk_str okr.2.1), eo, fun e => ?_, fun e => ?_⟩
      · obtain ⟨y1, y2⟩ := last_yes e
        have dl := (num_ok _ clt).2
        rw [y1]
        refine ⟨⟨_, List.mem_cons_self ..⟩, fun z => absurd z (by omega), fun _ => ⟨log_ok clt, by rw [sizeLine_eq]; omega, sz2, _, [], M, rfl, slen, some (rcd A.Row r), ?_, ?_⟩⟩
        · rw [take_more hr, lastN_snoc, lastC_snoc]
          rfl
        · rw [shown_take hr, List.map_append]
          simp only [shownAs, showD, List.map_cons, List.map_nil, if_neg (show ¬ cntN ((there xs).take i) r.name = 0 by omega), List.nil_append]
      · have c0 := last_no ps e
        refine ⟨⟨_, List.mem_cons_self ..⟩, sz2, _, [], M, rfl, slen, some (rcd A.Row r), ?_, ?_⟩
        · rw [take_more hr, lastN_snoc, lastC_snoc, c0]
          rfl
        · rw [shown_take hr, List.map_append, c0]
          simp only [shownAs, showD, List.map_cons, List.map_nil, if_true, List.nil_append]
    · rintro Γ' M' ⟨v, rfl, rfl⟩
      rw [List.take_length]
      walk_at "rd"
      exact Fin.lst hq h
end
end NF
namespace NF
open PySem L2
local macro_rules | `(tactic| walk_at "rd") => `(tactic| simp only [wDrop, wRet, wSet, wIfS, wDPut, wFld, wSetFld, wCall, wCB, wMake, wVar, wC, wOp, wTest, wChain, wAndV, wOrV, wNotV, wAnd, wOr, wNot, wIf, wTruth, wNil, wCons, wTup, wLst, wLstO, wDict, aInt, aIntC, ix_tup, ix_lst, ix_str, ix_scr, len_lst, len_tup, len_scr, len_str, add_int, add_str, add_tup, add_lst, sl_tup, sl_lst, tru_bl, tru_non, tru_int, tru_lst, tru_tup, tru_scr, ex_key, sl_dd, ix_dd0, ix_dd2, eqk_word, eqk_new, eqk_name, eqk_worth, eqk_drop, w_nn, w_wn, w_dn, w_nd, w_wd, w_wm, w_dm, w_dw, w_nw, wSl, wNoPart, wPart, wSeq, wNext, wNever, wCont, wBreak, wNeg, wYes, wBM, aAppend, aStr, aIntB, wIter, wIterT, wIterS, wRng1, wLenSet, wDGet, wDIn, wKeys, wVals, aEq, aNe, aAll, aNotInK, lt_int, lt_key, eqb_nil, eqk_nil, ge_key, List.cons.injEq, D.op.injEq, V.ref.injEq, Option.isSome_some, Option.isSome_none, aInSign, Tg.put, putAll, gwipe,
  now_int, now_str, now_tup, now_lst, now_non, now_bl, now_opt, eqb_opt, eqb_so, ins_rcd, f_key, f_name, f_since, f_worth, f_gone, eqk_int, eqk_non, eqk_key, eqb_int, eqb_str, eqb_key, atI_0, atI_1, atI_2, atI_3, atI_4, atI_last, cut_2, List.take_succ_cons, List.take_zero, true_and, and_true, if_true,
  startD, List.map_cons, List.map_nil, List.length_cons, List.length_nil, List.cons_append, List.nil_append, List.replicate, List.getElem?_cons_zero, List.getElem?_cons_succ, List.set_cons_zero, List.set_cons_succ, Option.some.injEq, exists_eq_left, exists_eq_left', D.int.injEq, D.str.injEq, D.bl.injEq, D.tup.injEq, D.lst.injEq, exists_and_left, exists_and_right, Nat.reduceAdd, Nat.reduceSub, Int.cast_ofNat_Int, Bool.false_eq_true, false_imp_iff, true_imp_iff, reduceCtorEq, decide_eq_true_eq, decide_eq_false_iff_not, decide_true, decide_false, not_true_eq_false, not_false_eq_true, Bool.not_true, Bool.not_false, Bool.not_eq_true', Bool.not_eq_false', ne_eq, and_self, implies_true, ↓reduceIte])
local macro_rules | `(tactic| walk_at "rdd") => `(tactic| simp only [wDrop, wRet, wSet, wIfS, wDPut, wFld, wSetFld, wCall, wCB, wMake, wVar, wC, wOp, wTest, wChain, wAndV, wOrV, wNotV, wAnd, wOr, wNot, wIf, wTruth, wNil, wCons, wTup, wLst, wLstO, wDict, aInt, aIntC, ix_tup, ix_lst, ix_str, ix_scr, len_lst, len_tup, len_scr, len_str, add_int, add_str, add_tup, add_lst, sl_tup, sl_lst, tru_bl, tru_non, tru_int, tru_lst, tru_tup, tru_scr, ex_key, Dd.d, Dd.key, Dd.word, Dd.tl, eqk_new, eqk_name, eqk_worth, eqk_drop, w_nn, w_wn, w_dn, w_nd, w_wd, w_wm, w_dm, w_dw, w_nw, wSl, wNoPart, wPart, wSeq, wNext, wNever, wCont, wBreak, wNeg, wYes, wBM, aAppend, aStr, aIntB, wIter, wIterT, wIterS, wRng1, wLenSet, wDGet, wDIn, wKeys, wVals, aEq, aNe, aAll, aNotInK, lt_int, lt_key, eqb_nil, eqk_nil, ge_key, List.cons.injEq, D.op.injEq, V.ref.injEq, Option.isSome_some, Option.isSome_none, aInSign, Tg.put, putAll, gwipe,
  now_int, now_str, now_tup, now_lst, now_non, now_bl, now_opt, eqb_opt, eqb_so, ins_rcd, f_key, f_name, f_since, f_worth, f_gone, eqk_int, eqk_non, eqk_key, eqb_int, eqb_str, eqb_key, atI_0, atI_1, atI_2, atI_3, atI_4, atI_last, cut_2, List.take_succ_cons, List.take_zero, true_and, and_true, if_true,
  startD, List.map_cons, List.map_nil, List.length_cons, List.length_nil, List.cons_append, List.nil_append, List.replicate, List.getElem?_cons_zero, List.getElem?_cons_succ, List.set_cons_zero, List.set_cons_succ, Option.some.injEq, exists_eq_left, exists_eq_left', D.int.injEq, D.str.injEq, D.bl.injEq, D.tup.injEq, D.lst.injEq, exists_and_left, exists_and_right, Nat.reduceAdd, Nat.reduceSub, Int.cast_ofNat_Int, Bool.false_eq_true, false_imp_iff, true_imp_iff, reduceCtorEq, decide_eq_true_eq, decide_eq_false_iff_not, decide_true, decide_false, not_true_eq_false, not_false_eq_true, Bool.not_true, Bool.not_false, Bool.not_eq_true', Bool.not_eq_false', ne_eq, and_self, implies_true, ↓reduceIte])
/-- the town's list is t -/
abbrev Tw (U V : Mp) (t : Addr) (zs : List D) : Mp := U ++ (t, MO.lst zs) :: V
def J_name (U V : Mp) (t : Addr) (zs : List D) (i : Nat) (acc : List D) (M' : Mp) : Prop := ∃ (cs : List Nat) (zs' : List D), acc = cs.map (fun c => D.str ⟨#[c]⟩) ∧ cs.length = i ∧ (∀ c, c ∈ cs → 97 ≤ c ∧ c ≤ 122) ∧ M' = Tw U V t zs' ∧ zs'.length ≤ zs.length + 2 + i
section
variable {P : Program} {w : World} {K : PySem.W.Frag} {mg : Str → Option Value} {base : Heap} {A : Ad} (T : Tx K w mg A)
include T
def sp_law_cell : ASp := fun ds M Φ => ∃ (ns : List Int) (k : Int), ds = [.scr ns, .int k] ∧ 0 ≤ k ∧ ∀ v : Int, Φ (.int v) M
theorem ok_law_cell  : OkD P w K mg base A.law_cell A.d_law_cell ["script", "k"] 1 (sp_law_cell) := by
  refine def_ok T.f_law_cell.F sc_law_cell ?len (fun cdv Ar outer s H E hr =>
      (db_cons (ds_if (dt_truth (d_var 0)) (db_one (ds_ret (d_ix (d_var 0) (d_op o_mod (d_var 1) (d_callB c_len T.b_len (by decide +kernel) (da_cons (d_var 0) da_nil)))))) db_nil)
      (db_one (ds_ret d_int)))) ?read
  case len => rintro ds M Φ ⟨ns, k, rfl, _⟩; rfl
  case read =>
    rintro ds M Φ ⟨ns, k, rfl, h0, h⟩
    walk_at "rd"
    refine ⟨fun e => ?_, fun e => Fin.pure (h _)⟩
    have ne : 0 < ns.length := by cases ns with | nil => simp at e | cons _ _ => simp
    have b1 : 0 ≤ k % (ns.length : Int) := Int.emod_nonneg _ (by omega)
    have b2 : k % (ns.length : Int) < ns.length := Int.emod_lt_of_pos _ (by omega)
    refine ⟨by omega, ?_⟩
    obtain ⟨j, hj⟩ := Int.eq_ofNat_of_zero_le b1
    rw [hj] at b2 ⊢
    refine ⟨ns[j]'(by omega), ?_, Fin.pure (h _)⟩
    rw [atI_nat]
    exact List.getElem?_eq_getElem (by omega)
def sp_law_mix : ASp := fun ds M Φ => ∃ (ns : List Int) (k : Int), ds = [.scr ns, .int k] ∧ 0 ≤ k ∧ k < 100000 ∧ ∀ v : Int, 0 ≤ v → v < 4294967231 → Φ (.int v) M
theorem ok_law_mix (G_law_cell : OkD P w K mg base A.law_cell A.d_law_cell ["script", "k"] 1 (sp_law_cell)) : OkD P w K mg base A.law_mix A.d_law_mix ["script", "k"] 2 (sp_law_mix) := by
  refine def_ok T.f_law_mix.F sc_law_mix ?len (fun cdv Ar outer s H E hr =>
      (db_cons (ds_set 2 sc_law_mix.nd (.inl rfl) (d_op o_mod (d_op o_add (d_calld T.f_law_cell G_law_cell (hr.mono (by decide)) (da_cons (d_var 0) (da_cons (d_var 1) da_nil))) (d_op o_mul d_int (d_op o_add (d_var 1) d_int))) d_int))
      (db_cons (ds_set 2 sc_law_mix.nd (.inl rfl) (d_op o_mod (d_op o_pow (d_var 2) d_int) d_int))
      (db_one (ds_ret (d_op o_mod (d_op o_add (d_op o_mul (d_op o_fdiv (d_var 2) d_int) d_int) (d_var 2)) d_int)))))) ?read
  case len => rintro ds M Φ ⟨ns, k, rfl, _⟩; rfl
  case read =>
    rintro ds M Φ ⟨ns, k, rfl, h0, h1, h⟩
    walk_at "rd"
    refine ⟨ns, k, rfl, h0, fun v => ?_⟩
    walk_at "rd"
    have e64 : (2 : Nat) ^ 64 = 18446744073709551616 := by decide
    have i64 : (2 : Int) ^ 64 = 18446744073709551616 := by decide
    have a1 : 0 ≤ (v + 104729 * (k + 1)) % 4294967291 := Int.emod_nonneg _ (by decide)
    have a2 : (v + 104729 * (k + 1)) % 4294967291 < 4294967291 := Int.emod_lt_of_pos _ (by decide)
    generalize (v + 104729 * (k + 1)) % 4294967291 = n at a1 a2 ⊢
    generalize n ^ Int.toNat 5 % 4294967279 = m
    refine ⟨.inl ⟨by rw [i64]; decide, by rw [i64]; decide⟩, by decide, ⟨by decide, by decide, by omega⟩, by decide, ⟨by decide, by decide⟩, .inr ⟨by rw [i64]; decide, by rw [i64]; decide⟩, by decide, Fin.pure (h _ (Int.emod_nonneg _ (by decide)) (Int.emod_lt_of_pos _ (by decide)))⟩
def sp_law_draw : ASp := fun ds M Φ => ∃ (ns : List Int) (t : Addr) (many : Int) (U V : Mp) (zs : List D), ds = [.scr ns, .op (.ref t), .int many] ∧ M = Tw U V t zs ∧ 0 < many ∧ many < 100000 ∧ zs.length < 10000 ∧ ∀ v : Int, 0 ≤ v → v < many → Φ (.int v) (Tw U V t (zs ++ [.int 0]))
theorem ok_law_draw (G_law_mix : OkD P w K mg base A.law_mix A.d_law_mix ["script", "k"] 2 (sp_law_mix)) : OkD P w K mg base A.law_draw A.d_law_draw ["script", "town", "many"] 3 (sp_law_draw) := by
  refine def_ok T.f_law_draw.F sc_law_draw ?len (fun cdv Ar outer s H E hr =>
      (db_cons (ds_expr (d_bm PySem.F.plainAttrs_list PySem.F.slot_list_append PySem.F.type_list_append m_append (d_var 1) (da_cons d_int da_nil)))
      (db_one (ds_ret (d_op o_mod (d_op o_fdiv (d_calld T.f_law_mix G_law_mix (hr.mono (by decide)) (da_cons (d_var 0) (da_cons (d_callB c_len T.b_len (by decide +kernel) (da_cons (d_var 1) da_nil)) da_nil))) d_int) (d_var 2)))))) ?read
  case len => rintro ds M Φ ⟨ns, t, k, U, V, zs, rfl, _⟩; rfl
  case read =>
    rintro ds M Φ ⟨ns, t, many, U, V, zs, rfl, rfl, h0, h1, h2, h⟩
    walk_at "rd"
    refine ⟨⟨zs, by simp⟩, zs, U, V, rfl, by rw [sizeLine_eq]; omega, len_op.mpr ⟨zs ++ [.int 0], by simp, ns, _, rfl, by omega, by simp; omega, fun v hv _ => ?_⟩⟩
    walk_at "rd"
    exact ⟨⟨by decide, by decide⟩, h0, Fin.pure (h _ (Int.emod_nonneg _ (by omega)) (Int.emod_lt_of_pos _ h0))⟩
def sp_law_pick : ASp := fun ds M Φ => ∃ (ns : List Int) (t : Addr) (xs : List D) (U V : Mp) (zs : List D), ds = [.scr ns, .op (.ref t), .lst xs] ∧ M = Tw U V t zs ∧ xs ≠ [] ∧ xs.length < 100000 ∧ zs.length < 10000 ∧ ∀ x, x ∈ xs → Φ x (Tw U V t (zs ++ [.int 0]))
theorem ok_law_pick (G_law_draw : OkD P w K mg base A.law_draw A.d_law_draw ["script", "town", "many"] 3 (sp_law_draw)) : OkD P w K mg base A.law_pick A.d_law_pick ["script", "town", "some"] 4 (sp_law_pick) := by
  refine def_ok T.f_law_pick.F sc_law_pick ?len (fun cdv Ar outer s H E hr =>
      (db_one (ds_ret (d_ix (d_var 2) (d_calld T.f_law_draw G_law_draw (hr.mono (by decide)) (da_cons (d_var 0) (da_cons (d_var 1) (da_cons (d_callB c_len T.b_len (by decide +kernel) (da_cons (d_var 2) da_nil)) da_nil)))))))) ?read
  case len => rintro ds M Φ ⟨ns, t, k, U, V, zs, rfl, _⟩; rfl
  case read =>
    rintro ds M Φ ⟨ns, t, xs, U, V, zs, rfl, rfl, h0, h1, h2, h⟩
    have pos : 0 < xs.length := List.length_pos_iff.mpr h0
    walk_at "rd"
    refine ⟨ns, t, _, U, V, zs, rfl, rfl, by omega, by omega, h2, fun v hv hlt => ?_⟩
    walk_at "rd"
    obtain ⟨j, rfl⟩ := Int.eq_ofNat_of_zero_le hv
    refine ⟨xs[j]'(by omega), ?_, Fin.pure (h _ (List.getElem_mem _))⟩
    rw [atI_nat]
    exact List.getElem?_eq_getElem (by omega)
def sp_law_name : ASp := fun ds M Φ => ∃ (ns : List Int) (t : Addr) (U V : Mp) (zs : List D), ds = [.scr ns, .op (.ref t)] ∧ M = Tw U V t zs ∧ zs.length < 5000 ∧ ∀ (x : Str) (zs' : List D), NameOk x → zs'.length ≤ zs.length + 8 → Φ (.str x) (Tw U V t zs')
theorem ok_law_name (G_law_draw : OkD P w K mg base A.law_draw A.d_law_draw ["script", "town", "many"] 3 (sp_law_draw)) (G_law_pick : OkD P w K mg base A.law_pick A.d_law_pick ["script", "town", "some"] 4 (sp_law_pick)) : OkD P w K mg base A.law_name A.d_law_name ["script", "town"] 5 (sp_law_name) := by
  refine def_ok T.f_law_name.F sc_law_name ?len (fun cdv Ar outer s H E hr =>
      (db_cons (ds_if (dt_cmp o_gt (d_calld T.f_law_draw G_law_draw (hr.mono (by decide)) (da_cons (d_var 0) (da_cons (d_var 1) (da_cons d_int da_nil)))) d_int) (db_one (ds_ret (d_calld T.f_law_pick G_law_pick (hr.mono (by decide)) (da_cons (d_var 0) (da_cons (d_var 1) (da_cons (d_lst (da_cons d_str (da_cons d_str (da_cons d_str (da_cons d_str da_nil))))) da_nil)))))) db_nil)
      (db_cons (ds_set 2 sc_law_name.nd (.inr rfl) d_str)
      (db_one (ds_ret (d_bm PySem.F.plainAttrs_str PySem.F.slot_str_join PySem.F.type_str_join m_join d_str (da_cons (d_lc [("k", 3)] rfl sc_law_name.nd (di_range1 T.b_range (da_cons (d_op o_add d_int (d_calld T.f_law_draw G_law_draw (hr.mono (by decide)) (da_cons (d_var 0) (da_cons (d_var 1) (da_cons d_int da_nil))))) da_nil)) (blkOk_by (N := N_law_name) (sc := defScope s_law_name) (by decide +kernel)) (fun _ _ _ _ _ => (dg_one 3 sc_law_name.nd (by first | exact .inl rfl | exact .inr rfl))) (fun _ _ _ _ _ => dts_nil) (fun _ _ _ _ _ => (d_ix (d_var 2) (d_calld T.f_law_draw G_law_draw (hr.mono (by decide)) (da_cons (d_var 0) (da_cons (d_var 1) (da_cons d_int da_nil))))))) da_nil))))))) ?read
  case len => rintro ds M Φ ⟨ns, t, U, V, zs, rfl, _⟩; rfl
  case read =>
    rintro ds M Φ ⟨ns, t, U, V, zs, rfl, rfl, h2, h⟩
    walk_at "rd"
    refine ⟨ns, t, _, U, V, zs, rfl, rfl, by decide, by decide, by omega, fun v hv hlt => ?_⟩
    walk_at "rd"
    refine ⟨fun _ => ?_, fun _ => ?_⟩
    · refine ⟨by rw [sizeLine_eq]; decide, ns, t, _, U, V, _, rfl, rfl, by simp, by simp, by simp; omega, fun x hx => Fin.pure ?_⟩
      simp only [List.mem_cons, List.not_mem_nil, or_false] at hx
      rcases hx with rfl | rfl | rfl | rfl
      · exact h _ _ nok_a (by simp)
      · exact h _ _ nok_b (by simp)
      · exact h _ _ nok_ab (by simp)
      · exact h _ _ nok_zz (by simp)
    · unfold wLc
      walk_at "rd"
      refine ⟨ns, t, _, U, V, _, rfl, rfl, by decide, by decide, by simp; omega, fun u hu hlt2 => ?_⟩
      walk_at "rd"
      obtain ⟨n, rfl⟩ := Int.eq_ofNat_of_zero_le hu
      have en : (1 + (n : Int)).toNat = n + 1 := by omega
      refine ⟨by omega, by omega, ?_⟩
      rw [en]
      refine ⟨J_name U V t zs, ⟨[], _, rfl, rfl, fun c hc => (by cases hc), rfl, by simp⟩, ?_, ?_⟩
      · rintro i d acc M' hd ⟨cs, zs', rfl, hl, hc, rfl, hz⟩
        have hi : i < n + 1 := by
          have := (List.getElem?_eq_some_iff.mp hd).1
          simpa using this
        refine ⟨ns, t, _, U, V, _, rfl, rfl, by decide, by decide, by omega, fun j hj hj2 => ?_⟩
        walk_at "rd"
        obtain ⟨m, rfl⟩ := Int.eq_ofNat_of_zero_le hj
        obtain ⟨c, e1, e2⟩ := letter (j := m) (by omega)
        refine ⟨by rw [letters_len, sizeLine_eq]; decide, c, by rw [atI_nat]; exact e1, by rw [List.length_map, sizeLine_eq]; omega, cs ++ [c], _, by simp, by simp [hl], fun a ha => ?_, rfl, by simp; omega⟩
        rcases List.mem_append.mp ha with z | z
        · exact hc a z
        · rw [List.mem_singleton.mp z]; exact e2
      · rintro acc M' ⟨cs, zs', rfl, hl, hc, rfl, hz⟩
        simp only [List.length_map, List.length_range] at hl hz
        refine ⟨"", cs.map fun c => ⟨#[c]⟩, rfl, by rw [List.map_map]; rfl, ?_, Fin.pure (h _ _ (nameOk_join (by omega) (by omega) hc) (by omega))⟩
        have e0 : (Str.ofString "").length = 0 := by decide +kernel
        have e1 : ((cs.map fun c => (⟨#[c]⟩ : Str)).map (·.length)) = cs.map fun _ => 1 := by rw [List.map_map]; rfl
        have e2 : ∀ l : List Nat, (l.map fun _ => 1).sum = l.length := by
          intro l
          induction l with
          | nil => rfl
          | cons a l ih => simp [ih]; omega
        rw [e1, e2, e0]
        omega
def sp_law_deed : ASp := fun ds M Φ => ∃ (ns : List Int) (t : Addr) (rd : D) (most : Int) (U V : Mp) (zs : List D) (ks : List Ky), ds = [.scr ns, .op (.ref t), rd, .int most] ∧ M = Tw U V t zs ∧ (∀ zs', Now (Tw U V t zs') rd (.lst (ks.map Ky.d))) ∧ (∀ k, k ∈ ks → KeyOk k) ∧ ks.length ≤ 100 ∧ 0 < most ∧ most ≤ 999 ∧ zs.length < 4000 ∧
  ∀ (x : Dd) (zs' : List D), x.ok → zs'.length ≤ zs.length + 20 → Φ x.d (Tw U V t zs')
theorem ok_law_deed (G_law_draw : OkD P w K mg base A.law_draw A.d_law_draw ["script", "town", "many"] 3 (sp_law_draw)) (G_law_pick : OkD P w K mg base A.law_pick A.d_law_pick ["script", "town", "some"] 4 (sp_law_pick)) (G_law_name : OkD P w K mg base A.law_name A.d_law_name ["script", "town"] 5 (sp_law_name)) : OkD P w K mg base A.law_deed A.d_law_deed ["script", "town", "rows", "most"] 6 (sp_law_deed) := by
  refine def_ok T.f_law_deed.F sc_law_deed ?len (fun cdv Ar outer s H E hr =>
      (db_cons (ds_set 4 sc_law_deed.nd (.inr rfl) (d_tup (da_cons (d_op o_add d_int (d_calld T.f_law_draw G_law_draw (hr.mono (by decide)) (da_cons (d_var 0) (da_cons (d_var 1) (da_cons (d_var 3) da_nil))))) (da_cons (d_op o_add d_int (d_calld T.f_law_draw G_law_draw (hr.mono (by decide)) (da_cons (d_var 0) (da_cons (d_var 1) (da_cons d_int da_nil))))) da_nil))))
      (db_cons (ds_set 5 sc_law_deed.nd (.inl rfl) (d_calld T.f_law_pick G_law_pick (hr.mono (by decide)) (da_cons (d_var 0) (da_cons (d_var 1) (da_cons (d_lst (da_cons d_str (da_cons d_str (da_cons d_str (da_cons d_str (da_cons d_str (da_cons d_str da_nil))))))) da_nil)))))
      (db_cons (ds_if (dt_cmp (o_eq hr.units) (d_var 5) d_str) (db_one (ds_ret (d_op o_add (d_var 4) (d_tup (da_cons d_str (da_cons (d_calld T.f_law_name G_law_name (hr.mono (by decide)) (da_cons (d_var 0) (da_cons (d_var 1) da_nil))) (da_cons (d_calld T.f_law_draw G_law_draw (hr.mono (by decide)) (da_cons (d_var 0) (da_cons (d_var 1) (da_cons d_int da_nil)))) da_nil))))))) db_nil)
      (db_cons (ds_setLc 6 [("one", 8)] rfl sc_law_deed.nd rfl (sw_true rfl rfl rfl (by decide +kernel)) (di_list (d_var 2)) (blkOk_by (N := N_law_deed) (sc := defScope s_law_deed) (by decide +kernel)) (fun _ _ _ _ _ => (dg_one 8 sc_law_deed.nd (by first | exact .inl rfl | exact .inr rfl))) (fun _ _ _ _ _ => (dts_one (dt_cmp (o_lt hr.units0) (d_var 8) (d_var 4)))) (fun _ _ _ _ _ => (d_var 8)))
      (db_cons (ds_set 7 sc_law_deed.nd (.inl rfl) (d_if (dt_cmp (o_ne hr.units) (d_var 6) (d_lst da_nil)) (d_calld T.f_law_pick G_law_pick (hr.mono (by decide)) (da_cons (d_var 0) (da_cons (d_var 1) (da_cons (d_var 6) da_nil)))) (d_tup (da_cons d_int (da_cons d_int da_nil)))))
      (db_cons (ds_if (dt_cmp (o_ge hr.units0) (d_var 7) (d_var 4)) (db_one (ds_ret (d_op o_add (d_var 4) (d_tup (da_cons d_str (da_cons (d_calld T.f_law_name G_law_name (hr.mono (by decide)) (da_cons (d_var 0) (da_cons (d_var 1) da_nil))) (da_cons d_int da_nil))))))) db_nil)
      (db_cons (ds_if (dt_cmp (o_eq hr.units) (d_var 5) d_str) (db_one (ds_ret (d_op o_add (d_var 4) (d_tup (da_cons d_str (da_cons (d_var 7) (da_cons (d_calld T.f_law_name G_law_name (hr.mono (by decide)) (da_cons (d_var 0) (da_cons (d_var 1) da_nil))) da_nil))))))) db_nil)
      (db_cons (ds_if (dt_cmp (o_eq hr.units) (d_var 5) d_str) (db_one (ds_ret (d_op o_add (d_var 4) (d_tup (da_cons d_str (da_cons (d_var 7) (da_cons (d_calld T.f_law_draw G_law_draw (hr.mono (by decide)) (da_cons (d_var 0) (da_cons (d_var 1) (da_cons d_int da_nil)))) da_nil))))))) db_nil)
      (db_one (ds_ret (d_op o_add (d_var 4) (d_tup (da_cons d_str (da_cons (d_var 7) da_nil))))))))))))))) ?read
  case len => rintro ds M Φ ⟨ns, t, b, most, U, V, zs, ks, rfl, _⟩; rfl
  case read =>
    rintro ds M Φ ⟨ns, t, rd, most, U, V, zs, ks, rfl, rfl, inT, hk, hl, m0, m1, hz, h⟩
    have sz : ∀ n : Nat, n ≤ 100 → n ≤ sizeLine := fun n hn => by rw [sizeLine_eq]; omega
    walk_at "rd"
    refine ⟨ns, t, _, U, V, _, rfl, rfl, m0, by omega, by omega, fun a a0 a1 => ?_⟩
    walk_at "rd"
    refine ⟨ns, t, _, U, V, _, rfl, rfl, by decide, by decide, by simp; omega, fun c c0 c1 => ?_⟩
    walk_at "rd"
    refine ⟨sz _ (by decide), sz _ (by decide), ns, t, _, U, V, _, rfl, rfl, by simp, by simp, by simp; omega, fun x hx => ?_⟩
    have okk : KeyOk (1 + a, 1 + c) := ⟨by show 1 ≤ 1 + a; omega, by show 1 + a ≤ 999; omega, by show 1 ≤ 1 + c; omega, by show 1 + c ≤ 5; omega⟩
    have ok11 : KeyOk (1, 1) := by unfold KeyOk; decide
    have word : x = .str "new" ∨ x = .str "name" ∨ x = .str "worth" ∨ x = .str "drop" := by
      simp only [List.mem_cons, List.not_mem_nil, or_false] at hx
      rcases hx with rfl | rfl | rfl | rfl | rfl | rfl <;> simp
    clear hx
    rcases word with rfl | rfl | rfl | rfl
    · walk_at "rd"
      refine ⟨ns, t, U, V, _, rfl, rfl, by simp; omega, fun nm z1 hn hl1 => ?_⟩
      simp only [List.length_append, List.length_cons, List.length_nil] at hl1
      refine ⟨ns, t, _, U, V, _, rfl, rfl, by decide, by decide, by omega, fun wv w0 w1 => ?_⟩
      exact ⟨sz _ (by decide), sz _ (by decide), Fin.pure (h (.new (1 + a, 1 + c) nm wv) _ ⟨okk, hn, w0, by omega⟩ (by simp; omega))⟩
    · walk_at "rd"
      refine lc_pure ks Ky.d (fun k => HT.lexLt [k.1, k.2] [1 + a, 1 + c]) Ky.d (sz _ hl) (fun Ψ h => ?_) (fun k hk => ⟨_, rfl, fun Ψ h' => ?_, fun _ Φ' h' => ?_⟩) ?_
      · walk_at "rd"
        exact ⟨_, inT _, h _ (inT _)⟩
      · walk_at "rd"
        exact h'
      · walk_at "rd"
        exact h'
      walk_at "rd"
      refine ⟨sz _ (by decide), eqk_keys _, fun ne => ?_, fun _ => ⟨sz _ (by decide), fun f => ?_, fun f => ?_⟩⟩
      · refine ⟨ns, t, _, U, V, _, rfl, rfl, fun e => ?_, ?_, by simp; omega, fun x hx => ?_⟩
        · rw [e] at ne
          simp at ne
        · rw [List.length_map]
          exact Nat.lt_of_le_of_lt (List.length_filter_le ..) (by omega)
        obtain ⟨k, hk', rfl⟩ := List.mem_map.mp hx
        have okat := hk k (List.mem_filter.mp hk').1
        walk_at "rd"
        refine ⟨fun f => ?_, fun f => ?_⟩
        · refine ⟨ns, t, U, V, _, rfl, rfl, by simp; omega, fun nm z1 hn hl1 => ?_⟩
          simp only [List.length_append, List.length_cons, List.length_nil] at hl1
          exact ⟨sz _ (by decide), sz _ (by decide), Fin.pure (h (.new (1 + a, 1 + c) nm 0) _ ⟨okk, hn, by decide, by decide⟩ (by omega))⟩
        · refine ⟨ns, t, U, V, _, rfl, rfl, by simp; omega, fun nm z1 hn hl1 => ?_⟩
          simp only [List.length_append, List.length_cons, List.length_nil] at hl1
          exact ⟨sz _ (by decide), sz _ (by decide), Fin.pure (h (.name (1 + a, 1 + c) k nm) _ ⟨okk, okat, lexLt_klt.mp f, hn⟩ (by omega))⟩
      · refine ⟨ns, t, U, V, _, rfl, rfl, by simp; omega, fun nm z1 hn hl1 => ?_⟩
        simp only [List.length_append, List.length_cons, List.length_nil] at hl1
        exact ⟨sz _ (by decide), sz _ (by decide), Fin.pure (h (.new (1 + a, 1 + c) nm 0) _ ⟨okk, hn, by decide, by decide⟩ (by omega))⟩
      · refine ⟨ns, t, U, V, _, rfl, rfl, by simp; omega, fun nm z1 hn hl1 => ?_⟩
        simp only [List.length_append, List.length_cons, List.length_nil] at hl1
        exact ⟨sz _ (by decide), sz _ (by decide), Fin.pure (h (.name (1 + a, 1 + c) (1, 1) nm) _ ⟨okk, ok11, lexLt_klt.mp f, hn⟩ (by omega))⟩
    · walk_at "rd"
      refine lc_pure ks Ky.d (fun k => HT.lexLt [k.1, k.2] [1 + a, 1 + c]) Ky.d (sz _ hl) (fun Ψ h => ?_) (fun k hk => ⟨_, rfl, fun Ψ h' => ?_, fun _ Φ' h' => ?_⟩) ?_
      · walk_at "rd"
        exact ⟨_, inT _, h _ (inT _)⟩
      · walk_at "rd"
        exact h'
      · walk_at "rd"
        exact h'
      walk_at "rd"
      refine ⟨sz _ (by decide), eqk_keys _, fun ne => ?_, fun _ => ⟨sz _ (by decide), fun f => ?_, fun f => ?_⟩⟩
      · refine ⟨ns, t, _, U, V, _, rfl, rfl, fun e => ?_, ?_, by simp; omega, fun x hx => ?_⟩
        · rw [e] at ne
          simp at ne
        · rw [List.length_map]
          exact Nat.lt_of_le_of_lt (List.length_filter_le ..) (by omega)
        obtain ⟨k, hk', rfl⟩ := List.mem_map.mp hx
        have okat := hk k (List.mem_filter.mp hk').1
        walk_at "rd"
        refine ⟨fun f => ?_, fun f => ?_⟩
        · refine ⟨ns, t, U, V, _, rfl, rfl, by simp; omega, fun nm z1 hn hl1 => ?_⟩
          simp only [List.length_append, List.length_cons, List.length_nil] at hl1
          exact ⟨sz _ (by decide), sz _ (by decide), Fin.pure (h (.new (1 + a, 1 + c) nm 0) _ ⟨okk, hn, by decide, by decide⟩ (by omega))⟩
        · refine ⟨ns, t, _, U, V, _, rfl, rfl, by decide, by decide, by simp; omega, fun wv w0 w1 => ?_⟩
          exact ⟨sz _ (by decide), sz _ (by decide), Fin.pure (h (.worth (1 + a, 1 + c) k wv) _ ⟨okk, okat, lexLt_klt.mp f, w0, by omega⟩ (by simp))⟩
      · refine ⟨ns, t, U, V, _, rfl, rfl, by simp; omega, fun nm z1 hn hl1 => ?_⟩
        simp only [List.length_append, List.length_cons, List.length_nil] at hl1
        exact ⟨sz _ (by decide), sz _ (by decide), Fin.pure (h (.new (1 + a, 1 + c) nm 0) _ ⟨okk, hn, by decide, by decide⟩ (by omega))⟩
      · refine ⟨ns, t, _, U, V, _, rfl, rfl, by decide, by decide, by simp; omega, fun wv w0 w1 => ?_⟩
        exact ⟨sz _ (by decide), sz _ (by decide), Fin.pure (h (.worth (1 + a, 1 + c) (1, 1) wv) _ ⟨okk, ok11, lexLt_klt.mp f, w0, by omega⟩ (by simp))⟩
    · walk_at "rd"
      refine lc_pure ks Ky.d (fun k => HT.lexLt [k.1, k.2] [1 + a, 1 + c]) Ky.d (sz _ hl) (fun Ψ h => ?_) (fun k hk => ⟨_, rfl, fun Ψ h' => ?_, fun _ Φ' h' => ?_⟩) ?_
      · walk_at "rd"
        exact ⟨_, inT _, h _ (inT _)⟩
      · walk_at "rd"
        exact h'
      · walk_at "rd"
        exact h'
      walk_at "rd"
      refine ⟨sz _ (by decide), eqk_keys _, fun ne => ?_, fun _ => ⟨sz _ (by decide), fun f => ?_, fun f => ?_⟩⟩
      · refine ⟨ns, t, _, U, V, _, rfl, rfl, fun e => ?_, ?_, by simp; omega, fun x hx => ?_⟩
        · rw [e] at ne
          simp at ne
        · rw [List.length_map]
          exact Nat.lt_of_le_of_lt (List.length_filter_le ..) (by omega)
        obtain ⟨k, hk', rfl⟩ := List.mem_map.mp hx
        have okat := hk k (List.mem_filter.mp hk').1
        walk_at "rd"
        refine ⟨fun f => ?_, fun f => ?_⟩
        · refine ⟨ns, t, U, V, _, rfl, rfl, by simp; omega, fun nm z1 hn hl1 => ?_⟩
          simp only [List.length_append, List.length_cons, List.length_nil] at hl1
          exact ⟨sz _ (by decide), sz _ (by decide), Fin.pure (h (.new (1 + a, 1 + c) nm 0) _ ⟨okk, hn, by decide, by decide⟩ (by omega))⟩
        · exact ⟨sz _ (by decide), sz _ (by decide), Fin.pure (h (.drop (1 + a, 1 + c) k) _ ⟨okk, okat, lexLt_klt.mp f⟩ (by simp))⟩
      · refine ⟨ns, t, U, V, _, rfl, rfl, by simp; omega, fun nm z1 hn hl1 => ?_⟩
        simp only [List.length_append, List.length_cons, List.length_nil] at hl1
        exact ⟨sz _ (by decide), sz _ (by decide), Fin.pure (h (.new (1 + a, 1 + c) nm 0) _ ⟨okk, hn, by decide, by decide⟩ (by omega))⟩
      · exact ⟨sz _ (by decide), sz _ (by decide), Fin.pure (h (.drop (1 + a, 1 + c) (1, 1)) _ ⟨okk, ok11, lexLt_klt.mp f⟩ (by simp))⟩
end
end NF
namespace NF
open PySem L2
local macro_rules | `(tactic| walk_at "rd") => `(tactic| simp only [wDrop, wRet, wSet, wIfS, wDPut, wFld, wSetFld, wCall, wCB, wMake, wVar, wC, wOp, wTest, wChain, wAndV, wOrV, wNotV, wAnd, wOr, wNot, wIf, wTruth, wNil, wCons, wTup, wLst, wLstO, wDict, aInt, aIntC, ix_tup, ix_lst, ix_str, ix_scr, len_lst, len_tup, len_scr, len_str, add_int, add_str, add_tup, add_lst, sl_tup, sl_lst, tru_bl, tru_non, tru_int, tru_lst, tru_tup, tru_scr, ex_key, sl_dd, ix_dd0, ix_dd2, eqk_word, eqk_new, eqk_name, eqk_worth, eqk_drop, w_nn, w_wn, w_dn, w_nd, w_wd, w_wm, w_dm, w_dw, w_nw, wSl, wNoPart, wPart, wSeq, wNext, wNever, wCont, wBreak, wNeg, wYes, wBM, aAppend, aStr, aIntB, wIter, wIterT, wIterS, wRng1, wLenSet, wDGet, wDIn, wKeys, wVals, aEq, aNe, aAll, aNotInK, lt_int, lt_key, eqb_nil, eqk_nil, ge_key, List.cons.injEq, D.op.injEq, V.ref.injEq, Option.isSome_some, Option.isSome_none, aInSign, Tg.put, putAll, gwipe,
  now_int, now_str, now_tup, now_lst, now_non, now_bl, now_opt, eqb_opt, eqb_so, ins_rcd, f_key, f_name, f_since, f_worth, f_gone, eqk_int, eqk_non, eqk_key, eqb_int, eqb_str, eqb_key, atI_0, atI_1, atI_2, atI_3, atI_4, atI_last, cut_2, List.take_succ_cons, List.take_zero, true_and, and_true, if_true,
  startD, List.map_cons, List.map_nil, List.length_cons, List.length_nil, List.cons_append, List.nil_append, List.replicate, List.getElem?_cons_zero, List.getElem?_cons_succ, List.set_cons_zero, List.set_cons_succ, Option.some.injEq, exists_eq_left, exists_eq_left', D.int.injEq, D.str.injEq, D.bl.injEq, D.tup.injEq, D.lst.injEq, exists_and_left, exists_and_right, Nat.reduceAdd, Nat.reduceSub, Int.cast_ofNat_Int, Bool.false_eq_true, false_imp_iff, true_imp_iff, reduceCtorEq, decide_eq_true_eq, decide_eq_false_iff_not, decide_true, decide_false, not_true_eq_false, not_false_eq_true, Bool.not_true, Bool.not_false, Bool.not_eq_true', Bool.not_eq_false', ne_eq, and_self, implies_true, ↓reduceIte])
local macro_rules | `(tactic| walk_at "rdd") => `(tactic| simp only [wDrop, wRet, wSet, wIfS, wDPut, wFld, wSetFld, wCall, wCB, wMake, wVar, wC, wOp, wTest, wChain, wAndV, wOrV, wNotV, wAnd, wOr, wNot, wIf, wTruth, wNil, wCons, wTup, wLst, wLstO, wDict, aInt, aIntC, ix_tup, ix_lst, ix_str, ix_scr, len_lst, len_tup, len_scr, len_str, add_int, add_str, add_tup, add_lst, sl_tup, sl_lst, tru_bl, tru_non, tru_int, tru_lst, tru_tup, tru_scr, ex_key, Dd.d, Dd.key, Dd.word, Dd.tl, eqk_new, eqk_name, eqk_worth, eqk_drop, w_nn, w_wn, w_dn, w_nd, w_wd, w_wm, w_dm, w_dw, w_nw, wSl, wNoPart, wPart, wSeq, wNext, wNever, wCont, wBreak, wNeg, wYes, wBM, aAppend, aStr, aIntB, wIter, wIterT, wIterS, wRng1, wLenSet, wDGet, wDIn, wKeys, wVals, aEq, aNe, aAll, aNotInK, lt_int, lt_key, eqb_nil, eqk_nil, ge_key, List.cons.injEq, D.op.injEq, V.ref.injEq, Option.isSome_some, Option.isSome_none, aInSign, Tg.put, putAll, gwipe,
  now_int, now_str, now_tup, now_lst, now_non, now_bl, now_opt, eqb_opt, eqb_so, ins_rcd, f_key, f_name, f_since, f_worth, f_gone, eqk_int, eqk_non, eqk_key, eqb_int, eqb_str, eqb_key, atI_0, atI_1, atI_2, atI_3, atI_4, atI_last, cut_2, List.take_succ_cons, List.take_zero, true_and, and_true, if_true,
  startD, List.map_cons, List.map_nil, List.length_cons, List.length_nil, List.cons_append, List.nil_append, List.replicate, List.getElem?_cons_zero, List.getElem?_cons_succ, List.set_cons_zero, List.set_cons_succ, Option.some.injEq, exists_eq_left, exists_eq_left', D.int.injEq, D.str.injEq, D.bl.injEq, D.tup.injEq, D.lst.injEq, exists_and_left, exists_and_right, Nat.reduceAdd, Nat.reduceSub, Int.cast_ofNat_Int, Bool.false_eq_true, false_imp_iff, true_imp_iff, reduceCtorEq, decide_eq_true_eq, decide_eq_false_iff_not, decide_true, decide_false, not_true_eq_false, not_false_eq_true, Bool.not_true, Bool.not_false, Bool.not_eq_true', Bool.not_eq_false', ne_eq, and_self, implies_true, ↓reduceIte])
def J_deeds (ns : List Int) (t p b : Addr) (count most : Int) (U V : Mp) (zs : List D) (i : Nat) (Γ' : Ctx) (M' : Mp) : Prop := ∃ (l : List Dd) (ks : List Ky) (zs' : List D) (v6 v7 v8 : Option D),
  Γ' = [some (.scr ns), some (.op (.ref t)), some (.int count), some (.int most), some (.op (.ref p)), some (.op (.ref b)), v6, v7, v8] ∧ M' = (b, MO.lst (ks.map Ky.d)) :: (p, MO.dic (kvOf Dd.key Dd.d l)) :: Tw U V t zs' ∧
  Deeds l ∧ l.length ≤ i ∧ (∀ k, k ∈ ks → KeyOk k) ∧ ks.length ≤ i + 1 ∧ zs'.length ≤ zs.length + 3 + 20 * i
section
variable {P : Program} {w : World} {K : PySem.W.Frag} {mg : Str → Option Value} {base : Heap} {A : Ad} (T : Tx K w mg A)
include T
def sp_law_deeds : ASp := fun ds M Φ => ∃ (ns : List Int) (t : Addr) (count : Nat) (most : Int) (U V : Mp) (zs : List D), ds = [.scr ns, .op (.ref t), .int count, .int most] ∧ M = Tw U V t zs ∧ count ≤ 60 ∧ 0 < most ∧ most ≤ 999 ∧ zs.length ≤ 1000 ∧
  ∀ (xs : List Dd) (zs' : List D), Deeds xs → xs.length ≤ count → zs'.length ≤ zs.length + 2000 → Φ (.lst (xs.map Dd.d)) (Tw U V t zs')
theorem ok_law_deeds (G_law_draw : OkD P w K mg base A.law_draw A.d_law_draw ["script", "town", "many"] 3 (sp_law_draw)) (G_law_deed : OkD P w K mg base A.law_deed A.d_law_deed ["script", "town", "rows", "most"] 6 (sp_law_deed)) : OkD P w K mg base A.law_deeds A.d_law_deeds ["script", "town", "count", "most"] 7 (sp_law_deeds) := by
  refine def_ok T.f_law_deeds.F sc_law_deeds ?len (fun cdv Ar outer s H E hr =>
      (db_cons (ds_set 4 sc_law_deeds.nd (.inr rfl) d_dict)
      (db_cons (ds_set 5 sc_law_deeds.nd (.inl rfl) (d_lstO (da_cons (d_tup (da_cons (d_op o_add d_int (d_calld T.f_law_draw G_law_draw (hr.mono (by decide)) (da_cons (d_var 0) (da_cons (d_var 1) (da_cons (d_var 3) da_nil))))) (da_cons (d_op o_add d_int (d_calld T.f_law_draw G_law_draw (hr.mono (by decide)) (da_cons (d_var 0) (da_cons (d_var 1) (da_cons d_int da_nil))))) da_nil))) da_nil)))
      (db_cons (ds_for PassesOwn.never rfl (di_range1 T.b_range (da_cons (d_calld T.f_law_draw G_law_draw (hr.mono (by decide)) (da_cons (d_var 0) (da_cons (d_var 1) (da_cons (d_op o_add (d_var 2) d_int) da_nil)))) da_nil)) (dg_one 6 sc_law_deeds.nd (.inl rfl))
      (db_cons (ds_set 7 sc_law_deeds.nd (.inl rfl) (d_calld T.f_law_deed G_law_deed (hr.mono (by decide)) (da_cons (d_var 0) (da_cons (d_var 1) (da_cons (d_var 5) (da_cons (d_var 3) da_nil))))))
      (db_cons (ds_dput (hu_of hr) (d_var 4) (d_sl (d_var 7) do_none (do_some d_int)) (d_var 7))
      (db_one (ds_if (dt_cmp (o_eq hr.units) (d_ix (d_var 7) d_int) d_str) (db_one (ds_expr (d_bm PySem.F.plainAttrs_list PySem.F.slot_list_append PySem.F.type_list_append m_append (d_var 5) (da_cons (d_sl (d_var 7) do_none (do_some d_int)) da_nil)))) db_nil)))))
      (db_one (ds_ret (d_lc [("key", 8)] rfl sc_law_deeds.nd (di_list (d_listKeys T.b_list hr (d_var 4))) (blkOk_by (N := N_law_deeds) (sc := defScope s_law_deeds) (by decide +kernel)) (fun _ _ _ _ _ => (dg_one 8 sc_law_deeds.nd (by first | exact .inl rfl | exact .inr rfl))) (fun _ _ _ _ _ => dts_nil) (fun _ _ _ _ _ => (d_dget (hu_of hr) (d_var 4) (d_var 8)))))))))) ?read
  case len => rintro ds M Φ ⟨ns, t, count, most, U, V, zs, rfl, _⟩; rfl
  case read =>
    rintro ds M Φ ⟨ns, t, count, most, U, V, zs, rfl, rfl, hc, m0, m1, hz, h⟩
    walk_at "rd"
    intro p hp
    refine ⟨ns, t, _, (p, MO.dic []) :: U, V, _, rfl, rfl, m0, by omega, by omega, fun a a0 a1 => ?_⟩
    walk_at "rd"
    refine ⟨ns, t, _, (p, MO.dic []) :: U, V, _, rfl, rfl, by decide, by decide, by simp; omega, fun e e0 e1 => ?_⟩
    walk_at "rd"
    have okk : KeyOk (1 + a, 1 + e) := ⟨by show 1 ≤ 1 + a; omega, by show 1 + a ≤ 999; omega, by show 1 ≤ 1 + e; omega, by show 1 + e ≤ 5; omega⟩
    refine ⟨by rw [sizeLine_eq]; decide, by rw [sizeLine_eq]; decide, fun b hb => ?_⟩
    refine for_any (J_deeds ns t p b count most U V zs) (fun n => n ≤ count) (fun Ψ hΨ => ?_) (fun n i Γ' M' hn hi hj => ?_) (fun n Γ' M' hn hj => ?_)
    · walk_at "rd"
      refine ⟨ns, t, _, (b, MO.lst [Ky.d (1 + a, 1 + e)]) :: (p, MO.dic []) :: U, V, _, rfl, rfl, by omega, by omega, by simp; omega, fun v v0 v1 => ?_⟩
      walk_at "rd"
      obtain ⟨n, rfl⟩ := Int.eq_ofNat_of_zero_le v0
      refine ⟨by omega, by omega, hΨ _ _ (by omega) ⟨[], [(1 + a, 1 + e)], _, none, none, none, rfl, rfl, ⟨fun x hx => (by cases hx), List.nodup_nil⟩, Nat.le_refl _, fun k hk => ?_, by simp, by simp⟩⟩
      rw [List.mem_singleton.mp hk]
      exact okk
    · obtain ⟨l, ks, zs', v6, v7, v8, rfl, rfl, hd, hl, hks, hkl, hzl⟩ := hj
      refine ⟨_, rfl, ?_⟩
      walk_at "rd"
      refine ⟨ns, t, .op (.ref b), most, (b, MO.lst (ks.map Ky.d)) :: (p, MO.dic (kvOf Dd.key Dd.d l)) :: U, V, zs', ks, rfl, rfl, fun z => .lst (by simp), hks, by omega, m0, m1, by omega, fun x z2 okx hz2 => ?_⟩
      walk_at "rd"
      obtain ⟨hd2, hl2⟩ := hd.put okx
      refine ⟨kk x.key, rfl, _, [(b, MO.lst (ks.map Ky.d))], _, rfl, by simp [kvOf, sizeLine_eq]; omega, ?_⟩
      rw [kv_putDd]
      refine ⟨fun en => ?_, fun en => ?_⟩
      · refine ⟨⟨_, List.mem_cons_self ..⟩, ks.map Ky.d, [], _, rfl, by rw [List.length_map, sizeLine_eq]; omega, ?_⟩
        refine ⟨putDd l x, ks ++ [x.key], z2, _, _, _, rfl, by simp, hd2, by omega, fun k hk => ?_, by simp; omega, by omega⟩
        rcases List.mem_append.mp hk with z | z
        · exact hks k z
        · rw [List.mem_singleton.mp z]; exact okx.key
      · exact ⟨putDd l x, ks, z2, _, _, _, rfl, rfl, hd2, by omega, hks, by omega, by omega⟩
    · obtain ⟨l, ks, zs', v6, v7, v8, rfl, rfl, hd, hl, hks, hkl, hzl⟩ := hj
      walk_at "rd"
      refine lc_all l (fun x => Ky.d x.key) Dd.d (size_le (m := 64) (by omega)) (fun Ψ h => ?_) (fun x hx => ⟨_, rfl, fun Φ' h' => ?_⟩) ?_
      · walk_at "rd"
        refine ⟨_, .own (List.mem_cons_of_mem _ (List.mem_cons_self ..)), ?_⟩
        rw [keys_kv, List.map_map]
        exact h _ trivial
      · walk_at "rd"
        exact ⟨kk x.key, rfl, _, .own (List.mem_cons_of_mem _ (List.mem_cons_self ..)), _, look_kv hx fun y hy e => hd.one y x hy hx e, h'⟩
      · exact Fin.lose ((List.sublist_cons_self _ _).trans (List.sublist_cons_self _ _)) (h _ _ hd (by omega) (by omega))
end
end NF
namespace NF
open PySem L2
local macro_rules | `(tactic| walk_at "rd") => `(tactic| simp only [wDrop, wRet, wSet, wIfS, wDPut, wFld, wSetFld, wCall, wCB, wMake, wVar, wC, wOp, wTest, wChain, wAndV, wOrV, wNotV, wAnd, wOr, wNot, wIf, wTruth, wNil, wCons, wTup, wLst, wLstO, wDict, aInt, aIntC, ix_tup, ix_lst, ix_str, ix_scr, len_lst, len_tup, len_scr, len_str, add_int, add_str, add_tup, add_lst, sl_tup, sl_lst, tru_bl, tru_non, tru_int, tru_lst, tru_tup, tru_scr, ex_key, sl_dd, ix_dd0, ix_dd2, eqk_word, wd_new, wd_name, wd_worth, wd_drop, ix_n3, ix_n4, ix_m3, ix_m4, ix_w3, ix_w4, ix_d3, eqk_new, eqk_name, eqk_worth, eqk_drop, w_nn, w_wn, w_dn, w_nd, w_wd, w_wm, w_dm, w_dw, w_nw, w_ed, w_em, w_ew, ix_nm0, ix_nm1, wSl, wNoPart, wPart, wSeq, wNext, wNever, wCont, wBreak, wNeg, wYes, wBM, aAppend, aStr, aIntB, wIter, wIterT, wIterS, wRng1, wLenSet, wDGet, wDIn, wKeys, wVals, aEq, aNe, aAll, aNotInK, lt_int, lt_key, eqb_nil, eqk_nil, ge_key, List.cons.injEq, D.op.injEq, V.ref.injEq, Option.isSome_some, Option.isSome_none, aInSign, Tg.put, putAll, gwipe,
  now_int, now_str, now_tup, now_lst, now_non, now_bl, now_opt, eqb_opt, eqb_so, ins_rcd, f_key, f_name, f_since, f_worth, f_gone, eqk_int, eqk_non, eqk_key, eqb_int, eqb_str, eqb_key, atI_0, atI_1, atI_2, atI_3, atI_4, atI_last, cut_2, List.take_succ_cons, List.take_zero, true_and, and_true, if_true,
  startD, List.map_cons, List.map_nil, List.length_cons, List.length_nil, List.cons_append, List.nil_append, List.replicate, List.getElem?_cons_zero, List.getElem?_cons_succ, List.set_cons_zero, List.set_cons_succ, Option.some.injEq, exists_eq_left, exists_eq_left', D.int.injEq, D.str.injEq, D.bl.injEq, D.tup.injEq, D.lst.injEq, exists_and_left, exists_and_right, Nat.reduceAdd, Nat.reduceSub, Int.cast_ofNat_Int, Bool.false_eq_true, false_imp_iff, true_imp_iff, reduceCtorEq, decide_eq_true_eq, decide_eq_false_iff_not, decide_true, decide_false, not_true_eq_false, not_false_eq_true, Bool.not_true, Bool.not_false, Bool.not_eq_true', Bool.not_eq_false', ne_eq, and_self, implies_true, ↓reduceIte])
local macro_rules | `(tactic| walk_at "rdd") => `(tactic| simp only [wDrop, wRet, wSet, wIfS, wDPut, wFld, wSetFld, wCall, wCB, wMake, wVar, wC, wOp, wTest, wChain, wAndV, wOrV, wNotV, wAnd, wOr, wNot, wIf, wTruth, wNil, wCons, wTup, wLst, wLstO, wDict, aInt, aIntC, ix_tup, ix_lst, ix_str, ix_scr, len_lst, len_tup, len_scr, len_str, add_int, add_str, add_tup, add_lst, sl_tup, sl_lst, tru_bl, tru_non, tru_int, tru_lst, tru_tup, tru_scr, ex_key, Dd.d, Dd.key, Dd.word, Dd.tl, eqk_new, eqk_name, eqk_worth, eqk_drop, w_nn, w_wn, w_dn, w_nd, w_wd, w_wm, w_dm, w_dw, w_nw, w_ed, w_em, w_ew, ix_nm0, ix_nm1, wSl, wNoPart, wPart, wSeq, wNext, wNever, wCont, wBreak, wNeg, wYes, wBM, aAppend, aStr, aIntB, wIter, wIterT, wIterS, wRng1, wLenSet, wDGet, wDIn, wKeys, wVals, aEq, aNe, aAll, aNotInK, lt_int, lt_key, eqb_nil, eqk_nil, ge_key, List.cons.injEq, D.op.injEq, V.ref.injEq, Option.isSome_some, Option.isSome_none, aInSign, Tg.put, putAll, gwipe,
  now_int, now_str, now_tup, now_lst, now_non, now_bl, now_opt, eqb_opt, eqb_so, ins_rcd, f_key, f_name, f_since, f_worth, f_gone, eqk_int, eqk_non, eqk_key, eqb_int, eqb_str, eqb_key, atI_0, atI_1, atI_2, atI_3, atI_4, atI_last, cut_2, List.take_succ_cons, List.take_zero, true_and, and_true, if_true,
  startD, List.map_cons, List.map_nil, List.length_cons, List.length_nil, List.cons_append, List.nil_append, List.replicate, List.getElem?_cons_zero, List.getElem?_cons_succ, List.set_cons_zero, List.set_cons_succ, Option.some.injEq, exists_eq_left, exists_eq_left', D.int.injEq, D.str.injEq, D.bl.injEq, D.tup.injEq, D.lst.injEq, exists_and_left, exists_and_right, Nat.reduceAdd, Nat.reduceSub, Int.cast_ofNat_Int, Bool.false_eq_true, false_imp_iff, true_imp_iff, reduceCtorEq, decide_eq_true_eq, decide_eq_false_iff_not, decide_true, decide_false, not_true_eq_false, not_false_eq_true, Bool.not_true, Bool.not_false, Bool.not_eq_true', Bool.not_eq_false', ne_eq, and_self, implies_true, ↓reduceIte])
def J_lthere (d : D) (xs : List Dd) (q : Addr) (M : Mp) (i : Nat) (Γ' : Ctx) (M' : Mp) : Prop := ∃ v2 v3 v4 v5 v6 v7, Γ' = [some d, some (.op (.ref q)), v2, v3, v4, v5, v6, v7] ∧ M' = (q, MO.lst (((xs.take i).filterMap (alive xs)).map ltup)) :: M
section
variable {P : Program} {w : World} {K : PySem.W.Frag} {mg : Str → Option Value} {base : Heap} {A : Ad} (T : Tx K w mg A)
include T
def sp_law_there : ASp := fun ds M Φ => ∃ (d : D) (xs : List Dd), ds = [d] ∧ Now M d (.lst (xs.map Dd.d)) ∧ Deeds xs ∧ xs.length < 64 ∧ Φ (.lst ((there xs).map ltup)) M
theorem ok_law_there  : OkD P w K mg base A.law_there A.d_law_there ["deeds"] 1 (sp_law_there) := by
  refine def_ok T.f_law_there.F sc_law_there ?len (fun cdv Ar outer s H E hr =>
      (db_cons (ds_set 1 sc_law_there.nd (.inl rfl) (d_lstO da_nil))
      (db_cons (ds_for PassesOwn.never rfl (di_list (d_var 0)) (dg_one 2 sc_law_there.nd (.inr rfl))
      (db_cons (ds_set 3 sc_law_there.nd (.inl rfl) (d_callB (c_sorted hr) T.b_sorted (by decide +kernel) (da_cons (d_lc [("one", 7)] rfl sc_law_there.nd (di_list (d_var 0)) (blkOk_by (N := N_law_there) (sc := defScope s_law_there) (by decide +kernel)) (fun _ _ _ _ _ => (dg_one 7 sc_law_there.nd (by first | exact .inl rfl | exact .inr rfl))) (fun _ _ _ _ _ => (dts_one (PW.pt (dw_and (dt_cmp (o_ne hr.units) (d_ix (d_var 7) d_int) d_str) (dw_and1 (dt_cmp (o_eq hr.units) (d_ix (d_var 7) d_int) (d_sl (d_var 2) do_none (do_some d_int)))))))) (fun _ _ _ _ _ => (d_var 7))) da_nil)))
      (db_cons (ds_if (PW.pt (dw_or (dt_cmp (o_ne hr.units) (d_ix (d_var 2) d_int) d_str) (dw_or1 (dt_cmp (o_ne hr.units) (d_lc [("one", 7)] rfl sc_law_there.nd (di_list (d_var 3)) (blkOk_by (N := N_law_there) (sc := defScope s_law_there) (by decide +kernel)) (fun _ _ _ _ _ => (dg_one 7 sc_law_there.nd (by first | exact .inl rfl | exact .inr rfl))) (fun _ _ _ _ _ => (dts_one (dt_cmp (o_eq hr.units) (d_ix (d_var 7) d_int) d_str))) (fun _ _ _ _ _ => (d_var 7))) (d_lst da_nil))))) (db_one ds_cont) db_nil)
      (db_cons (ds_set 4 sc_law_there.nd (.inl rfl) (d_op o_add (d_lst (da_cons (d_tup (da_cons (d_sl (d_var 2) do_none (do_some d_int)) (da_cons (d_ix (d_var 2) d_int) da_nil))) da_nil)) (d_lc [("one", 7)] rfl sc_law_there.nd (di_list (d_var 3)) (blkOk_by (N := N_law_there) (sc := defScope s_law_there) (by decide +kernel)) (fun _ _ _ _ _ => (dg_one 7 sc_law_there.nd (by first | exact .inl rfl | exact .inr rfl))) (fun _ _ _ _ _ => (dts_one (dt_cmp (o_eq hr.units) (d_ix (d_var 7) d_int) d_str))) (fun _ _ _ _ _ => (d_tup (da_cons (d_sl (d_var 7) do_none (do_some d_int)) (da_cons (d_ix (d_var 7) d_int) da_nil)))))))
      (db_cons (ds_set 5 sc_law_there.nd (.inl rfl) (d_op o_sub (d_callB c_len T.b_len (by decide +kernel) (da_cons (d_var 4) da_nil)) d_int))
      (db_cons (ds_while PassesOwn.never (PW.pt (dw_and (dt_cmp o_gt (d_var 5) d_int) (dw_and1 (dt_cmp (o_eq hr.units) (d_ix (d_ix (d_var 4) (d_op o_sub (d_var 5) d_int)) d_int) (d_ix (d_ix (d_var 4) (d_var 5)) d_int))))) (db_one (ds_set 5 sc_law_there.nd (.inl rfl) (d_op o_sub (d_var 5) d_int))))
      (db_cons (ds_set 6 sc_law_there.nd (.inl rfl) (d_op o_add (d_lst (da_cons (d_ix (d_var 2) d_int) da_nil)) (d_lc [("one", 7)] rfl sc_law_there.nd (di_list (d_var 3)) (blkOk_by (N := N_law_there) (sc := defScope s_law_there) (by decide +kernel)) (fun _ _ _ _ _ => (dg_one 7 sc_law_there.nd (by first | exact .inl rfl | exact .inr rfl))) (fun _ _ _ _ _ => (dts_one (dt_cmp (o_eq hr.units) (d_ix (d_var 7) d_int) d_str))) (fun _ _ _ _ _ => (d_ix (d_var 7) d_int)))))
      (db_one (ds_expr (d_bm PySem.F.plainAttrs_list PySem.F.slot_list_append PySem.F.type_list_append m_append (d_var 1) (da_cons (d_tup (da_cons (d_ix (d_ix (d_var 4) (d_var 5)) d_int) (da_cons (d_ix (d_ix (d_var 4) (d_var 5)) d_int) (da_cons (d_sl (d_var 2) do_none (do_some d_int)) (da_cons (d_ix (d_var 6) (d_neg d_int)) da_nil))))) da_nil)))))))))))
      (db_one (ds_ret (d_callB (c_sorted hr) T.b_sorted (by decide +kernel) (da_cons (d_var 1) da_nil))))))) ?read
  case len => rintro ds M Φ ⟨d, xs, rfl, _⟩; rfl
  case read =>
    rintro ds M Φ ⟨d, xs, rfl, nw, dd, few, h⟩
    have g := dd.good few
    have nd := dd.nodup
    walk_at "rd"
    refine ⟨by simp, fun q hq => ?_⟩
    refine for_typed xs Dd.d (fun M' => Now M' d (.lst (xs.map Dd.d))) (J_lthere d xs q M) (fun Ψ h => ?_) ⟨_, _, _, _, _, _, rfl, rfl⟩ ?_ ?_ ?_
    · walk_at "rd"
      exact ⟨_, nw.cons _, h⟩
    · rintro i Γ' M' ⟨v2, v3, v4, v5, v6, v7, rfl, rfl⟩
      exact nw.cons _
    · rintro i x Γ' M' hx ⟨v2, v3, v4, v5, v6, v7, rfl, rfl⟩
      refine ⟨_, rfl, ?_⟩
      have mx := List.mem_of_getElem? hx
      walk_at "rd"
      refine lc_pure xs Dd.d (fun y => decide (y.at_ = some x.key)) Dd.d (size_le (m := 64) (Nat.le_of_lt few)) (fun Ψ h => ?_) (fun y hy => ⟨_, rfl, fun Ψ h' => ?_, fun _ Φ' h' => ?_⟩) ?_
      · walk_at "rd"
        exact ⟨_, nw.cons _, h _ (nw.cons _)⟩
      · cases y with
        | new k n z =>
          walk_at "rd"
          simpa [Dd.at_] using h'
        | name k a n =>
          walk_at "rd"
          simpa [Dd.at_] using h'
        | worth k a n =>
          walk_at "rd"
          simpa [Dd.at_] using h'
        | drop k a =>
          walk_at "rd"
          simpa [Dd.at_] using h'
      · walk_at "rd"
        exact h'
      simp only [aSorted]
      walk_at "rd"
      refine ⟨sortOk_dd (g.filter _), ?_⟩
      rw [show (List.filter (fun y => decide (y.at_ = some x.key)) xs) = aboutL xs x.key from rfl, about_sort g nd]
      cases x with
      | name k a n =>
        refine ⟨fun _ => ⟨_, _, _, _, _, _, rfl, ?_⟩, fun e => absurd e w_nn⟩
        rw [take_more hx, List.filterMap_append]
        simp [alive, made]
      | worth k a n =>
        refine ⟨fun _ => ⟨_, _, _, _, _, _, rfl, ?_⟩, fun e => absurd e w_wn⟩
        rw [take_more hx, List.filterMap_append]
        simp [alive, made]
      | drop k a =>
        refine ⟨fun _ => ⟨_, _, _, _, _, _, rfl, ?_⟩, fun e => absurd e w_dn⟩
        rw [take_more hx, List.filterMap_append]
        simp [alive, made]
      | new k n z =>
        refine ⟨fun e => absurd rfl e, fun _ => ?_⟩
        have okx := g.ok _ mx
        have mok : ∀ y, y ∈ aboutL (ordd xs) k → y.ok := fun y hy => g.ordd.ok y (List.mem_filter.mp hy).1
        have mat : ∀ y, y ∈ aboutL (ordd xs) k → y.at_ = some k := fun y hy => by simpa using (List.mem_filter.mp hy).2
        have mlen : (aboutL (ordd xs) k).length < 64 := Nat.lt_of_le_of_lt (List.length_filter_le ..) g.ordd.few
        have rm : rowsAt (aboutL (ordd xs) k) ⟨k, n, k, z, false⟩ = rowsAt (ordd xs) ⟨k, n, k, z, false⟩ := rowsAt_mine (r := ⟨k, n, k, z, false⟩)
        obtain ⟨p1, p2, p3⟩ := fold_parts (l := aboutL (ordd xs) k) (r := ⟨k, n, k, z, false⟩) mat
        rw [rm] at p1 p2 p3
        have key : (Dd.new k n z).key = k := rfl
        rw [key]
        generalize aboutL (ordd xs) k = mine at mok mat mlen p1 p2 p3 ⊢
        refine lc_pure mine Dd.d isDrop Dd.d (size_le (m := 64) (Nat.le_of_lt mlen)) (fun Ψ h => ?_) (fun y hy => ⟨_, rfl, fun Ψ h' => ?_, fun _ Φ' h' => ?_⟩) ?_
        · walk_at "rd"
          exact h _ trivial
        · cases y <;> (walk_at "rd"; simpa [isDrop] using h')
        · walk_at "rd"
          exact h'
        walk_at "rd"
        refine ⟨Nat.zero_le _, eqk_dds fun y hy => mok y (List.mem_filter.mp hy).1, fun ne => ?_, fun em => ?_⟩
        · refine ⟨_, _, _, _, _, _, rfl, ?_⟩
          have gn : (rowsAt (ordd xs) ⟨k, n, k, z, false⟩).gone = true := by
            rw [p1, Bool.false_or, List.any_eq_true]
            rw [List.isEmpty_eq_false_iff_exists_mem] at ne
            obtain ⟨e, he⟩ := ne
            obtain ⟨y, hy, _⟩ := List.mem_map.mp he
            exact ⟨y, (List.mem_filter.mp hy).1, (List.mem_filter.mp hy).2⟩
          rw [take_more hx, List.filterMap_append]
          simp [alive, made, gn]
        · have gn : (rowsAt (ordd xs) ⟨k, n, k, z, false⟩).gone = false := by
            rw [p1, Bool.false_or, List.any_eq_false]
            intro y hy hd
            rw [List.isEmpty_iff, List.map_eq_nil_iff, List.filter_eq_nil_iff] at em
            exact em y hy hd
          refine ⟨by rw [sizeLine_eq]; decide, by rw [sizeLine_eq]; decide, ?_⟩
          refine lc_pure mine Dd.d (fun y => (nmOf y).isSome) (fun y => match nmOf y with | some p => nmD p | none => .non) (size_le (m := 64) (Nat.le_of_lt mlen)) (fun Ψ h => ?_) (fun y hy => ⟨_, rfl, fun Ψ h' => ?_, fun hp Φ' h' => ?_⟩) ?_
          · walk_at "rd"
            exact h _ trivial
          · cases y <;> (walk_at "rd"; simpa [nmOf] using h')
          · cases y with
            | name k' a' n' =>
              walk_at "rd"
              exact ⟨by rw [sizeLine_eq]; decide, h'⟩
            | _ => simp [nmOf] at hp
          have nlen : (mine.filterMap nmOf).length ≤ mine.length := List.length_filterMap_le ..
          rw [filter_pick nmOf _ nmD (fun x y e => by rw [e])]
          walk_at "rd"
          refine ⟨by rw [List.length_map, sizeLine_eq]; omega, ?_⟩
          have nok : ∀ p, p ∈ (k, n) :: mine.filterMap nmOf → NameOk p.2 := fun p hp => by
            rcases List.mem_cons.mp hp with e | e
            · rw [e]; exact okx.2.1
            · obtain ⟨y, hy, e⟩ := List.mem_filterMap.mp e
              cases y <;> simp [nmOf] at e
              subst e
              exact (mok _ hy).2.2.2
          generalize mine.filterMap nmOf = N at nlen p3 nok ⊢
          have e0 : (((N.map nmD).length + 1 : Nat) : Int) - 1 = (N.length : Int) := by simp
          rw [e0]
          refine ⟨J_run d q (Dd.new k n z).d (.lst (mine.map Dd.d)) ((k, n) :: N) v6 v7 _, ⟨N.length, rfl, rfl, by simp, fun j p p' hj h1 h2 => ?_⟩, ?_⟩
          · have := (List.getElem?_eq_some_iff.mp h1).1
            simp only [List.length_cons] at this
            have e : j = N.length := by omega
            rw [e, h2] at h1
            cases h1
            rfl
          rintro m Γ' M' ⟨rfl, rfl, hm, hs⟩
          obtain ⟨pm, hpm⟩ : ∃ p, ((k, n) :: N)[m]? = some p := ⟨_, List.getElem?_eq_getElem hm⟩
          refine and_pure (decide ((0 : Int) < m)) (decide (((k, n) :: N)[m - 1]?.map (·.2) = some pm.2)) (fun Ψ h' => ?_) (fun e Ψ h' => ?_) ⟨fun e => ?_, fun e => ?_⟩
          · walk_at "rd"
            exact h'
          · have m0 : 0 < m := by have := of_decide_eq_true e; omega
            obtain ⟨pn, hpn⟩ : ∃ p, ((k, n) :: N)[m - 1]? = some p := ⟨_, List.getElem?_eq_getElem (by omega)⟩
            have em : ((m : Int) - 1) = ((m - 1 : Nat) : Int) := by omega
            have i1 := at_nm hpn
            have i2 := at_nm hpm
            rw [hpn] at h'
            walk_at "rd"
            rw [em]
            refine ⟨_, i1, ?_⟩
            walk_at "rd"
            refine ⟨_, i2, ?_⟩
            walk_at "rd"
            refine ⟨eqk_str (nameOk_str (nok pn (List.mem_of_getElem? hpn))), eqk_str (nameOk_str (nok pm (List.mem_of_getElem? hpm))), ?_⟩
            simpa using h'
          · simp only [Bool.and_eq_true, decide_eq_true_eq] at e
            obtain ⟨e1, e2⟩ := e
            walk_at "rd"
            refine ⟨m - 1, by omega, ?_, rfl, by omega, fun j p p' hj h1 h2 => ?_⟩
            · rw [show ((m : Int) - 1) = ((m - 1 : Nat) : Int) by omega]
              rfl
            · rw [h2] at e2
              have e3 : p'.2 = pm.2 := by simpa using e2
              rcases Nat.lt_or_ge j m with lt | ge
              · have : j = m - 1 := by omega
                rw [this, h2] at h1
                cases h1
                rfl
              · rw [hs j p pm ge h1 hpm, e3]
          · have fin : N.foldl stepN (k, n) = pm := by
              refine run_at hpm (fun j p hj h1 => hs j p pm hj h1 hpm) fun j p hj h1 e3 => ?_
              have : decide ((0 : Int) < m) = true := by rw [decide_eq_true_eq]; omega
              rw [this, Bool.true_and, decide_eq_false_iff_not] at e
              refine e ?_
              rw [show m - 1 = j by omega, h1]
              simp [e3]
            have fin2 := p3.trans fin
            have i2 := at_nm hpm
            have sz1 : 1 ≤ sizeLine := by rw [sizeLine_eq]; decide
            walk_at "rd"
            refine ⟨sz1, ?_⟩
            refine lc_pure mine Dd.d (fun y => (wtOf y).isSome) (fun y => match wtOf y with | some v => .int v | none => .non) (size_le (m := 64) (Nat.le_of_lt mlen)) (fun Ψ h => ?_) (fun y hy => ⟨_, rfl, fun Ψ h' => ?_, fun hp Φ' h' => ?_⟩) ?_
            · walk_at "rd"
              exact h _ trivial
            · cases y <;> (walk_at "rd"; simpa [wtOf] using h')
            · cases y with
              | worth k' a' n' =>
                walk_at "rd"
                exact h'
              | _ => simp [wtOf] at hp
            have wlen : (mine.filterMap wtOf).length ≤ mine.length := List.length_filterMap_le ..
            rw [filter_pick wtOf _ D.int (fun x y e => by rw [e])]
            walk_at "rd"
            refine ⟨by rw [List.length_map, sizeLine_eq]; omega, ⟨_, List.mem_cons_self ..⟩, _, i2, ?_⟩
            rw [ix_nm1]
            refine ⟨_, i2, ?_⟩
            rw [ix_nm0]
            have lastw : (D.int z :: (mine.filterMap wtOf).map D.int).getLast? = some (.int (rowsAt (ordd xs) ⟨k, n, k, z, false⟩).worth) := by
              have : (D.int z :: (mine.filterMap wtOf).map D.int) = (z :: mine.filterMap wtOf).map D.int := rfl
              rw [this, List.getLast?_map, p2]
              rfl
            have hi := (List.getElem?_eq_some_iff.mp hx).1
            have alen : ((xs.take i).filterMap (alive xs)).length ≤ (xs.take i).length := List.length_filterMap_le ..
            rw [List.length_take] at alen
            refine ⟨_, lastw, by rw [sizeLine_eq]; decide, _, [], M, rfl, by rw [List.length_map, sizeLine_eq]; omega, _, _, _, _, _, _, rfl, ?_⟩
            rw [take_more hx, List.filterMap_append, List.map_append]
            have al : alive xs (Dd.new k n z) = some (rowsAt (ordd xs) ⟨k, n, k, z, false⟩) := by simp [alive, made, gn]
            rw [List.filterMap_cons_some al]
            have f1 := congrArg Prod.fst fin2
            have f2 := congrArg Prod.snd fin2
            simp only at f1 f2
            simp only [List.filterMap_nil, List.map_cons, List.map_nil, ltup, f1, f2, rowsAt_key, List.nil_append]
            rfl
    · rintro Γ' M' ⟨v2, v3, v4, v5, v6, v7, rfl, rfl⟩
      rw [List.take_length]
      walk_at "rd"
      simp only [aSorted]
      walk_at "rd"
      refine ⟨_, .lst (List.mem_cons_self ..), alive_sort g nd, ?_⟩
      rw [lthere_eq g nd]
      exact Fin.lose (List.sublist_cons_self _ _) h
end
end NF
namespace NF
open PySem L2
def shD (p : Str × Rc) : D := .tup [.str p.1, .str p.2.name, Ky.d p.2.key, .int p.2.worth]
theorem ix_sh1 {M : Mp} {Φ : KD} {p : Str × Rc} : aIx (shD p) (.int 1) M Φ ↔ Φ (.str p.2.name) M := by unfold shD; rw [ix_tup, atI_1]; simp
local macro_rules | `(tactic| walk_at "rd") => `(tactic| simp only [wDrop, wRet, wSet, wIfS, wDPut, wFld, wSetFld, wCall, wCB, wMake, wVar, wC, wOp, wTest, wChain, wAndV, wOrV, wNotV, wAnd, wOr, wNot, wIf, wTruth, wNil, wCons, wTup, wLst, wLstO, wDict, aInt, aIntC, ix_tup, ix_lst, ix_str, ix_scr, len_lst, len_tup, len_scr, len_str, add_int, add_str, add_tup, add_lst, sl_tup, sl_lst, tru_bl, tru_non, tru_int, tru_lst, tru_tup, tru_scr, ex_key, sl_dd, ix_dd0, ix_dd2, eqk_word, wd_new, wd_name, wd_worth, wd_drop, ix_n3, ix_n4, ix_m3, ix_m4, ix_w3, ix_w4, ix_d3, eqk_new, eqk_name, eqk_worth, eqk_drop, w_nn, w_wn, w_dn, w_nd, w_wd, w_wm, w_dm, w_dw, w_nw, w_ed, w_em, w_ew, ix_nm0, ix_nm1, ix_sh1, wSl, wNoPart, wPart, wSeq, wNext, wNever, wCont, wBreak, wNeg, wYes, wBM, aAppend, aStr, aIntB, wIter, wIterT, wIterS, wRng1, wLenSet, wDGet, wDIn, wKeys, wVals, aEq, aNe, aAll, aNotInK, lt_int, lt_key, eqb_nil, eqk_nil, ge_key, List.cons.injEq, D.op.injEq, V.ref.injEq, Option.isSome_some, Option.isSome_none, aInSign, Tg.put, putAll, gwipe,
  now_int, now_str, now_tup, now_lst, now_non, now_bl, now_opt, eqb_opt, eqb_so, ins_rcd, f_key, f_name, f_since, f_worth, f_gone, eqk_int, eqk_non, eqk_key, eqb_int, eqb_str, eqb_key, atI_0, atI_1, atI_2, atI_3, atI_4, atI_last, cut_2, List.take_succ_cons, List.take_zero, true_and, and_true, if_true,
  startD, List.map_cons, List.map_nil, List.length_cons, List.length_nil, List.cons_append, List.nil_append, List.replicate, List.getElem?_cons_zero, List.getElem?_cons_succ, List.set_cons_zero, List.set_cons_succ, Option.some.injEq, exists_eq_left, exists_eq_left', D.int.injEq, D.str.injEq, D.bl.injEq, D.tup.injEq, D.lst.injEq, exists_and_left, exists_and_right, Nat.reduceAdd, Nat.reduceSub, Int.cast_ofNat_Int, Bool.false_eq_true, false_imp_iff, true_imp_iff, reduceCtorEq, decide_eq_true_eq, decide_eq_false_iff_not, decide_true, decide_false, not_true_eq_false, not_false_eq_true, Bool.not_true, Bool.not_false, Bool.not_eq_true', Bool.not_eq_false', ne_eq, and_self, implies_true, ↓reduceIte])
local macro_rules | `(tactic| walk_at "rdd") => `(tactic| simp only [wDrop, wRet, wSet, wIfS, wDPut, wFld, wSetFld, wCall, wCB, wMake, wVar, wC, wOp, wTest, wChain, wAndV, wOrV, wNotV, wAnd, wOr, wNot, wIf, wTruth, wNil, wCons, wTup, wLst, wLstO, wDict, aInt, aIntC, ix_tup, ix_lst, ix_str, ix_scr, len_lst, len_tup, len_scr, len_str, add_int, add_str, add_tup, add_lst, sl_tup, sl_lst, tru_bl, tru_non, tru_int, tru_lst, tru_tup, tru_scr, ex_key, Dd.d, Dd.key, Dd.word, Dd.tl, eqk_new, eqk_name, eqk_worth, eqk_drop, w_nn, w_wn, w_dn, w_nd, w_wd, w_wm, w_dm, w_dw, w_nw, w_ed, w_em, w_ew, ix_nm0, ix_nm1, ix_sh1, wSl, wNoPart, wPart, wSeq, wNext, wNever, wCont, wBreak, wNeg, wYes, wBM, aAppend, aStr, aIntB, wIter, wIterT, wIterS, wRng1, wLenSet, wDGet, wDIn, wKeys, wVals, aEq, aNe, aAll, aNotInK, lt_int, lt_key, eqb_nil, eqk_nil, ge_key, List.cons.injEq, D.op.injEq, V.ref.injEq, Option.isSome_some, Option.isSome_none, aInSign, Tg.put, putAll, gwipe,
  now_int, now_str, now_tup, now_lst, now_non, now_bl, now_opt, eqb_opt, eqb_so, ins_rcd, f_key, f_name, f_since, f_worth, f_gone, eqk_int, eqk_non, eqk_key, eqb_int, eqb_str, eqb_key, atI_0, atI_1, atI_2, atI_3, atI_4, atI_last, cut_2, List.take_succ_cons, List.take_zero, true_and, and_true, if_true,
  startD, List.map_cons, List.map_nil, List.length_cons, List.length_nil, List.cons_append, List.nil_append, List.replicate, List.getElem?_cons_zero, List.getElem?_cons_succ, List.set_cons_zero, List.set_cons_succ, Option.some.injEq, exists_eq_left, exists_eq_left', D.int.injEq, D.str.injEq, D.bl.injEq, D.tup.injEq, D.lst.injEq, exists_and_left, exists_and_right, Nat.reduceAdd, Nat.reduceSub, Int.cast_ofNat_Int, Bool.false_eq_true, false_imp_iff, true_imp_iff, reduceCtorEq, decide_eq_true_eq, decide_eq_false_iff_not, decide_true, decide_false, not_true_eq_false, not_false_eq_true, Bool.not_true, Bool.not_false, Bool.not_eq_true', Bool.not_eq_false', ne_eq, and_self, implies_true, ↓reduceIte])
def J_lshown (d : D) (l : List Rc) (q : Addr) (M : Mp) (i : Nat) (Γ' : Ctx) (M' : Mp) : Prop := ∃ v2 v3 v4 v5 v6 v7, Γ' = [some d, some (.op (.ref q)), v2, v3, v4, v5, v6, v7] ∧ M' = (q, MO.lst ((shown (l.take i)).map shD)) :: M
section
variable {P : Program} {w : World} {K : PySem.W.Frag} {mg : Str → Option Value} {base : Heap} {A : Ad} (T : Tx K w mg A)
include T
def sp_law_shown : ASp := fun ds M Φ => ∃ (d : D) (xs : List Dd), ds = [d] ∧ Now M d (.lst (xs.map Dd.d)) ∧ Deeds xs ∧ xs.length < 64 ∧ Φ (.lst ((shown (there xs)).map shD)) M
theorem ok_law_shown (G_law_there : OkD P w K mg base A.law_there A.d_law_there ["deeds"] 1 (sp_law_there)) : OkD P w K mg base A.law_shown A.d_law_shown ["deeds"] 2 (sp_law_shown) := by
  refine def_ok T.f_law_shown.F sc_law_shown ?len (fun cdv Ar outer s H E hr =>
      (db_cons (ds_set 1 sc_law_shown.nd (.inl rfl) (d_lstO da_nil))
      (db_cons (ds_for PassesOwn.never rfl (di_list (d_calld T.f_law_there G_law_there (hr.mono (by decide)) (da_cons (d_var 0) da_nil))) (dg_many [2, 3, 4, 5] rfl (pgs_cons (pg_name (i := 2) sc_law_shown.nd rfl (.inr rfl)) (pgs_cons (pg_name (i := 3) sc_law_shown.nd rfl (.inl rfl)) (pgs_cons (pg_name (i := 4) sc_law_shown.nd rfl (.inl rfl)) (pgs_cons (pg_name (i := 5) sc_law_shown.nd rfl (.inl rfl)) pgs_nil)))))
      (db_cons (ds_set 6 sc_law_shown.nd (.inl rfl) (d_callB c_len T.b_len (by decide +kernel) (da_cons (d_lc [("one", 7)] rfl sc_law_shown.nd (di_list (d_var 1)) (blkOk_by (N := N_law_shown) (sc := defScope s_law_shown) (by decide +kernel)) (fun _ _ _ _ _ => (dg_one 7 sc_law_shown.nd (by first | exact .inl rfl | exact .inr rfl))) (fun _ _ _ _ _ => (dts_one (dt_cmp (o_eq hr.units) (d_ix (d_var 7) d_int) (d_var 2)))) (fun _ _ _ _ _ => (d_var 7))) da_nil)))
      (db_one (ds_expr (d_bm PySem.F.plainAttrs_list PySem.F.slot_list_append PySem.F.type_list_append m_append (d_var 1) (da_cons (d_tup (da_cons (d_op o_add (d_var 2) (d_ix (d_lst (da_cons d_str (da_cons (d_callTy c_str T.b_str (by decide +kernel) (da_cons (d_op o_add (d_var 6) d_int) da_nil)) da_nil))) (d_callTy c_intB T.b_int (by decide +kernel) (da_cons (d_cmp o_gt (d_var 6) d_int) da_nil)))) (da_cons (d_var 2) (da_cons (d_var 4) (da_cons (d_var 5) da_nil))))) da_nil))))))
      (db_one (ds_ret (d_var 1)))))) ?read
  case len => rintro ds M Φ ⟨d, xs, rfl, _⟩; rfl
  case read =>
    rintro ds M Φ ⟨d, xs, rfl, nw, dd, few, h⟩
    have g := dd.good few
    walk_at "rd"
    refine ⟨by simp, fun q hq => ?_⟩
    have lt := there_len g
    refine for_typed (there xs) ltup (fun _ => True) (J_lshown d (there xs) q M) (fun Ψ h => ?_) ⟨_, _, _, _, _, _, rfl, rfl⟩ (fun _ _ _ _ => trivial) ?_ ?_
    · walk_at "rd"
      refine ⟨d, xs, rfl, nw.cons _, dd, few, ?_⟩
      walk_at "rd"
      exact h
    · rintro i r Γ' M' hr ⟨v2, v3, v4, v5, v6, v7, rfl, rfl⟩
      refine ⟨_, rfl, ?_⟩
      have okr := there_ok g (List.mem_of_getElem? hr)
      have hi := (List.getElem?_eq_some_iff.mp hr).1
      have plen : ((there xs).take i).length < 64 := by rw [List.length_take]; omega
      walk_at "rd"
      refine lc_pure (shown ((there xs).take i)) shD (fun p => decide (p.2.name = r.name)) shD (size_le (m := 64) (by rw [shown_length]; omega)) (fun Ψ h => ?_) (fun p hp => ⟨_, rfl, fun Ψ h' => ?_, fun _ Φ' h' => ?_⟩) ?_
      · walk_at "rd"
        exact ⟨_, .lst (List.mem_cons_self ..), h _ (.lst (List.mem_cons_self ..))⟩
      · walk_at "rd"
        have mp : p.2 ∈ (there xs).take i := by rw [← shown_rows ((there xs).take i)]; exact List.mem_map.mpr ⟨p, hp, rfl⟩
        exact ⟨eqk_str (nameOk_str (there_ok g (List.mem_of_mem_take mp)).2.1), eqk_str (nameOk_str okr.2.1), h'⟩
      · walk_at "rd"
        exact h'
      walk_at "rd"
      have cn : (((shown ((there xs).take i)).filter fun p => decide (p.2.name = r.name)).map shD).length = cntN ((there xs).take i) r.name := by
        rw [List.length_map]
        unfold cntN
        conv => rhs; rw [← shown_rows ((there xs).take i)]
        rw [List.filter_map, List.length_map]
        rfl
      rw [cn]
      have clt := cnt_lt (n := r.name) plen
      have dl := (num_ok _ clt).2
      have nlen := okr.2.1.2.1
      have slen : ((shown ((there xs).take i)).map shD).length < sizeLine := by rw [List.length_map, shown_length, sizeLine_eq]; omega
      refine ⟨⟨_, List.mem_cons_self ..⟩, log_ok clt, by rw [sizeLine_eq]; decide, ?_⟩
      have st := shown_take hr
      by_cases c0 : cntN ((there xs).take i) r.name = 0
      · rw [if_neg (by omega)]
        refine ⟨.str "", by rw [atI_0]; rfl, ?_⟩
        rw [add_str]
        have e0 : (Str.ofString "").length = 0 := by decide +kernel
        refine ⟨by rw [e0, sizeLine_eq]; omega, by rw [sizeLine_eq]; decide, _, [], M, rfl, slen, _, _, _, _, _, _, rfl, ?_⟩
        rw [st, List.map_append, c0, Str.append_right_empty (by rw [e0]; rfl)]
        rfl
      · rw [if_pos (by omega)]
        refine ⟨.str (Str.ofString (toString ((cntN ((there xs).take i) r.name : Int) + 1))), by rw [atI_1]; rfl, ?_⟩
        rw [add_str]
        refine ⟨by rw [sizeLine_eq]; omega, by rw [sizeLine_eq]; decide, _, [], M, rfl, slen, _, _, _, _, _, _, rfl, ?_⟩
        rw [st, List.map_append]
        simp only [shownAs, if_neg c0, shD, List.map_cons, List.map_nil, List.nil_append]
    · rintro Γ' M' ⟨v2, v3, v4, v5, v6, v7, rfl, rfl⟩
      rw [List.take_length]
      walk_at "rd"
      exact Fin.lst hq h
end
end NF
namespace NF
open PySem L2
local macro_rules | `(tactic| walk_at "rd") => `(tactic| simp only [wDrop, wRet, wSet, wIfS, wDPut, wFld, wSetFld, wCall, wCB, wMake, wVar, wC, wOp, wTest, wChain, wAndV, wOrV, wNotV, wAnd, wOr, wNot, wIf, wTruth, wNil, wCons, wTup, wLst, wLstO, wDict, aInt, aIntC, ix_tup, ix_lst, ix_str, ix_scr, len_lst, len_tup, len_scr, len_str, add_int, add_str, add_tup, add_lst, sl_tup, sl_lst, tru_bl, tru_non, tru_int, tru_lst, tru_tup, tru_scr, ex_key, sl_dd, ix_dd0, ix_dd2, eqk_word, wd_new, wd_name, wd_worth, wd_drop, ix_n3, ix_n4, ix_m3, ix_m4, ix_w3, ix_w4, ix_d3, eqk_new, eqk_name, eqk_worth, eqk_drop, w_nn, w_wn, w_dn, w_nd, w_wd, w_wm, w_dm, w_dw, w_nw, w_ed, w_em, w_ew, ix_nm0, ix_nm1, now_table, eqb_dd, eqb_self, wSl, wNoPart, wPart, wSeq, wNext, wNever, wCont, wBreak, wNeg, wYes, wBM, aAppend, aStr, aIntB, wIter, wIterT, wIterS, wRng1, wRev, wLenSet, wDGet, wDGet2, wDIn, wKeys, wVals, aEq, aNe, aAll, aNotInK, lt_int, lt_key, eqb_nil, eqk_nil, ge_key, List.cons.injEq, D.op.injEq, V.ref.injEq, Option.isSome_some, Option.isSome_none, aInSign, Tg.put, putAll, gwipe,
  now_int, now_str, now_tup, now_lst, now_non, now_bl, now_opt, eqb_opt, eqb_so, ins_rcd, f_key, f_name, f_since, f_worth, f_gone, eqk_int, eqk_non, eqk_key, eqb_int, eqb_str, eqb_key, atI_0, atI_1, atI_2, atI_3, atI_4, atI_last, cut_2, List.take_succ_cons, List.take_zero, true_and, and_true, if_true,
  startD, List.map_cons, List.map_nil, List.length_cons, List.length_nil, List.cons_append, List.nil_append, List.replicate, List.getElem?_cons_zero, List.getElem?_cons_succ, List.set_cons_zero, List.set_cons_succ, Option.some.injEq, exists_eq_left, exists_eq_left', D.int.injEq, D.str.injEq, D.bl.injEq, D.tup.injEq, D.lst.injEq, exists_and_left, exists_and_right, Nat.reduceAdd, Nat.reduceSub, Int.cast_ofNat_Int, Bool.false_eq_true, false_imp_iff, true_imp_iff, reduceCtorEq, decide_eq_true_eq, decide_eq_false_iff_not, decide_true, decide_false, not_true_eq_false, not_false_eq_true, Bool.not_true, Bool.not_false, Bool.not_eq_true', Bool.not_eq_false', ne_eq, and_self, implies_true, ↓reduceIte, aIsN, D.isNon, xMeth, xMake, xIf, xCall, xSet, xDrop, xRet, xIfS, xSeq, xRaise, xOf, sOfX, xFld, sz_0, sz_1, sz_2, sz_3, sz_4, wPar, wSortSet])
local macro_rules | `(tactic| walk_at "rdd") => `(tactic| simp only [wDrop, wRet, wSet, wIfS, wDPut, wFld, wSetFld, wCall, wCB, wMake, wVar, wC, wOp, wTest, wChain, wAndV, wOrV, wNotV, wAnd, wOr, wNot, wIf, wTruth, wNil, wCons, wTup, wLst, wLstO, wDict, aInt, aIntC, ix_tup, ix_lst, ix_str, ix_scr, len_lst, len_tup, len_scr, len_str, add_int, add_str, add_tup, add_lst, sl_tup, sl_lst, tru_bl, tru_non, tru_int, tru_lst, tru_tup, tru_scr, ex_key, Dd.d, Dd.key, Dd.word, Dd.tl, eqk_new, eqk_name, eqk_worth, eqk_drop, w_nn, w_wn, w_dn, w_nd, w_wd, w_wm, w_dm, w_dw, w_nw, w_ed, w_em, w_ew, ix_nm0, ix_nm1, now_table, eqb_dd, eqb_self, wSl, wNoPart, wPart, wSeq, wNext, wNever, wCont, wBreak, wNeg, wYes, wBM, aAppend, aStr, aIntB, wIter, wIterT, wIterS, wRng1, wRev, wLenSet, wDGet, wDGet2, wDIn, wKeys, wVals, aEq, aNe, aAll, aNotInK, lt_int, lt_key, eqb_nil, eqk_nil, ge_key, List.cons.injEq, D.op.injEq, V.ref.injEq, Option.isSome_some, Option.isSome_none, aInSign, Tg.put, putAll, gwipe,
  now_int, now_str, now_tup, now_lst, now_non, now_bl, now_opt, eqb_opt, eqb_so, ins_rcd, f_key, f_name, f_since, f_worth, f_gone, eqk_int, eqk_non, eqk_key, eqb_int, eqb_str, eqb_key, atI_0, atI_1, atI_2, atI_3, atI_4, atI_last, cut_2, List.take_succ_cons, List.take_zero, true_and, and_true, if_true,
  startD, List.map_cons, List.map_nil, List.length_cons, List.length_nil, List.cons_append, List.nil_append, List.replicate, List.getElem?_cons_zero, List.getElem?_cons_succ, List.set_cons_zero, List.set_cons_succ, Option.some.injEq, exists_eq_left, exists_eq_left', D.int.injEq, D.str.injEq, D.bl.injEq, D.tup.injEq, D.lst.injEq, exists_and_left, exists_and_right, Nat.reduceAdd, Nat.reduceSub, Int.cast_ofNat_Int, Bool.false_eq_true, false_imp_iff, true_imp_iff, reduceCtorEq, decide_eq_true_eq, decide_eq_false_iff_not, decide_true, decide_false, not_true_eq_false, not_false_eq_true, Bool.not_true, Bool.not_false, Bool.not_eq_true', Bool.not_eq_false', ne_eq, and_self, implies_true, ↓reduceIte, aIsN, D.isNon, xMeth, xMake, xIf, xCall, xSet, xDrop, xRet, xIfS, xSeq, xRaise, xOf, sOfX, xFld, sz_0, sz_1, sz_2, sz_3, sz_4, wPar, wSortSet])
local macro_rules | `(tactic| walk_at "rq") => `(tactic| simp only [wDrop, wRet, wSet, wIfS, wDPut, wFld, wSetFld, wCall, wCB, wMake, wVar, wC, wOp, wTest, wChain, wAndV, wOrV, wNotV, wAnd, wOr, wNot, wIf, wTruth, wNil, wCons, wTup, wLst, wLstO, wDict, aInt, aIntC, ix_tup, ix_lst, ix_str, ix_scr, len_lst, len_tup, len_scr, len_str, add_int, add_str, add_tup, add_lst, sl_tup, sl_lst, tru_bl, tru_non, tru_int, tru_lst, tru_tup, tru_scr, ex_key, sl_dd, ix_dd0, ix_dd2, eqk_word, wd_new, wd_name, wd_worth, wd_drop, ix_n3, ix_n4, ix_m3, ix_m4, ix_w3, ix_w4, ix_d3, eqk_new, eqk_name, eqk_worth, eqk_drop, w_nn, w_wn, w_dn, w_nd, w_wd, w_wm, w_dm, w_dw, w_nw, w_ed, w_em, w_ew, ix_nm0, ix_nm1, now_table, eqb_dd, eqb_self, wSl, wNoPart, wPart, wNext, wNever, wCont, wBreak, wNeg, wYes, wBM, aAppend, aStr, aIntB, wIter, wIterT, wIterS, wRng1, wRev, wLenSet, wDGet, wDGet2, wDIn, wKeys, wVals, aEq, aNe, aAll, aNotInK, lt_int, lt_key, eqb_nil, eqk_nil, ge_key, List.cons.injEq, D.op.injEq, V.ref.injEq, Option.isSome_some, Option.isSome_none, aInSign, Tg.put, putAll, gwipe,
  now_int, now_str, now_tup, now_lst, now_non, now_bl, now_opt, eqb_opt, eqb_so, ins_rcd, f_key, f_name, f_since, f_worth, f_gone, eqk_int, eqk_non, eqk_key, eqb_int, eqb_str, eqb_key, atI_0, atI_1, atI_2, atI_3, atI_4, atI_last, cut_2, List.take_succ_cons, List.take_zero, true_and, and_true, if_true,
  startD, List.map_cons, List.map_nil, List.length_cons, List.length_nil, List.cons_append, List.nil_append, List.replicate, List.getElem?_cons_zero, List.getElem?_cons_succ, List.set_cons_zero, List.set_cons_succ, Option.some.injEq, exists_eq_left, exists_eq_left', D.int.injEq, D.str.injEq, D.bl.injEq, D.tup.injEq, D.lst.injEq, exists_and_left, exists_and_right, Nat.reduceAdd, Nat.reduceSub, Int.cast_ofNat_Int, Bool.false_eq_true, false_imp_iff, true_imp_iff, reduceCtorEq, decide_eq_true_eq, decide_eq_false_iff_not, decide_true, decide_false, not_true_eq_false, not_false_eq_true, Bool.not_true, Bool.not_false, Bool.not_eq_true', Bool.not_eq_false', ne_eq, and_self, implies_true, ↓reduceIte, aIsN, D.isNon, xMeth, xMake, xIf, xCall, xSet, xDrop, xRet, xIfS, xSeq, xRaise, xOf, sOfX, xFld, sz_0, sz_1, sz_2, sz_3, sz_4, wPar, wSortSet])
def faceD (p : Sh) : D := .tup [.str p.1, .int p.2.worth]
noncomputable def facesL (xs : List Dd) : List (List Key × D) := kvOf (fun p : Sh => p.2.key) faceD (shown (there xs))
noncomputable def facesD (xs : List Dd) : D := .dic ((facesL xs).map (·.1)) ((facesL xs).map (·.2))
theorem faces_dic (M : Mp) (xs : List Dd) : DicOf M (facesD xs) (facesL xs) := by
  have := DicOf.still (M := M) ((facesL xs).map (·.1)) ((facesL xs).map (·.2))
  rw [zip_parts] at this
  exact this
noncomputable def wantL (xs : List Dd) (n : Str) : List Ky := ((there xs).filter fun r => decide (r.name = n)).map Rc.key
theorem faces_ok {xs : List Dd} (g : Good xs) : ∀ p, p ∈ facesL xs → D.eqOk p.2 := fun p hp => by
  unfold facesL kvOf at hp
  obtain ⟨q, hq, rfl⟩ := List.mem_map.mp hp
  have := (shown_ok g hq).1
  simp [faceD, D.eqOk, D.plain, D.plainAll, D.deep, D.deepAll, this]
theorem faces_nd {xs : List Dd} (g : Good xs) : ((facesL xs).map (·.1)).Nodup := by
  have h := there_keys g
  unfold facesL kvOf
  rw [List.map_map]
  have e : (shown (there xs)).map ((fun p : List Key × D => p.1) ∘ fun x => (kk x.2.key, faceD x)) = (shK (shown (there xs))).map kk := by unfold shK; rw [List.map_map]; rfl
  rw [e]
  have go : ∀ l : List Ky, l.Nodup → (l.map kk).Nodup := by
    intro l
    induction l with
    | nil => intro _; exact List.nodup_nil
    | cons k l ih =>
      intro nd
      rw [List.nodup_cons] at nd
      rw [List.map_cons, List.nodup_cons]
      refine ⟨fun m => ?_, ih nd.2⟩
      obtain ⟨j, hj, e⟩ := List.mem_map.mp m
      rw [kk_inj] at e
      exact nd.1 (e ▸ hj)
  exact go _ h
theorem faces_eq {xs ys : List Dd} (h : ordd xs = ordd ys) : facesL xs = facesL ys := by unfold facesL; rw [there_eq h]
theorem lt2 {u c : Nat} (h : u + 65 < c) : u + 2 < c := by omega
def sc_silent1 : Scope := { kind := .function, names := [(Str.ofString ".0", NameKind.local), (Str.ofString "deed", NameKind.cell), (Str.ofString "faces", NameKind.globalImplicit), (Str.ofString "row", NameKind.cell), (Str.ofString "whole", NameKind.cell)], isGenerator := false, isCoroutine := false }
section
variable {P : Program} {w : World} {K : PySem.W.Frag} {mg : Str → Option Value} {base : Heap} {A : Ad} (T : Tx K w mg A)
include T
def spx_row_there (A : Ad) : ASpX := fun ds M Φ Ξ => ∃ (d : D) (xs : List Dd) (k : Ky), ds = [d, Ky.d k] ∧ Now M d (.lst (xs.map Dd.d)) ∧ Good xs ∧ (A.Pt, MO.tab lamq) ∈ M ∧ ((∃ r, rowAt xs k = some r ∧ Φ (rcd A.Row r) M) ∨ (rowAt xs k = none ∧ Ξ A.NoRow M))
theorem okx_row_there (G_there : OkD P w K mg base A.there A.d_there ["deeds"] 4 (sp_there A.Row A.Pt)) : OkX P w K mg base A.row_there A.d_row_there ["deeds", "key"] 5 (spx_row_there A) := by
  refine def_okX T.f_row_there.F sc_row_there ?len (fun cdv Ar outer s H E hr =>
      (bx_cons (s_of (ds_setLc 2 [("one", 3)] rfl sc_row_there.nd rfl (sw_true rfl rfl rfl (by decide +kernel)) (di_list (d_calld T.f_there G_there (hr.mono (by decide)) (da_cons (d_var 0) da_nil))) (blkOk_by (N := N_row_there) (sc := defScope s_row_there) (by decide +kernel)) (fun _ _ _ _ _ => (dg_one 3 sc_row_there.nd (by first | exact .inl rfl | exact .inr rfl))) (fun _ _ _ _ _ => (dts_one (dt_cmp (o_eq hr.units) (d_fld T.cl_Row T.n_Row_key (d_var 3)) (d_var 1)))) (fun _ _ _ _ _ => (d_var 3))))
      (bx_cons (sx_if (dt_not (dt_truth (d_var 2))) (bx_one (sx_raise (takes_of rfl rfl rfl rfl) T.xc_NoRow)) (b_of db_nil))
      (b_of (db_one (ds_ret (d_ix (d_var 2) d_int))))))) ?read
  case len => rintro ds M Φ Ξ ⟨d, xs, k, rfl, _⟩; rfl
  case read =>
    rintro ds M Φ Ξ ⟨d, xs, k, rfl, nw, g, ht, h⟩
    have sz : ∀ n : Nat, n ≤ 200 → n ≤ sizeLine := fun n hn => by rw [sizeLine_eq]; omega
    have lt := there_len g
    walk_at "rd"
    refine lc_pure (there xs) (rcd A.Row) (fun r => decide (r.key = k)) (rcd A.Row) (sz _ (by omega)) (fun Ψ h => ?_) (fun r hr => ⟨_, rfl, fun Ψ h' => ?_, fun _ Φ' h' => ?_⟩) ?_
    · walk_at "rd"
      refine ⟨d, xs, rfl, nw, g, ht, ?_⟩
      walk_at "rd"
      exact h _ trivial
    · walk_at "rd"
      exact h'
    · walk_at "rd"
      exact h'
    walk_at "rd"
    have eh : ((there xs).filter fun r => decide (r.key = k)).head? = rowAt xs k := List.head?_filter
    rcases h with ⟨r, er, h⟩ | ⟨er, h⟩
    · rw [er] at eh
      refine ⟨fun z => ?_, fun _ => ⟨rcd A.Row r, by rw [List.getElem?_map, ← List.head?_eq_getElem?, eh]; rfl, Fin.pure h⟩⟩
      rw [List.isEmpty_map, List.isEmpty_iff] at z
      rw [z] at eh
      cases eh
    · rw [er] at eh
      refine ⟨fun _ => FinX.pure h, fun z => ?_⟩
      rw [List.head?_eq_none_iff.mp eh] at z
      cases z
def sp_wanting_of (A : Ad) : ASp := fun ds M Φ => ∃ (d : D) (xs : List Dd) (n : Str), ds = [d, .str n] ∧ Now M d (.lst (xs.map Dd.d)) ∧ Good xs ∧ (A.Pt, MO.tab lamq) ∈ M ∧ PyData.strOk n = true ∧ Φ (.lst ((wantL xs n).map Ky.d)) M
theorem ok_wanting_of (G_there : OkD P w K mg base A.there A.d_there ["deeds"] 4 (sp_there A.Row A.Pt)) : OkD P w K mg base A.wanting_of A.d_wanting_of ["deeds", "name"] 5 (sp_wanting_of A) := by
  refine def_ok T.f_wanting_of.F sc_wanting_of ?len (fun cdv Ar outer s H E hr =>
      (db_one (ds_ret (d_lc [("one", 2)] rfl sc_wanting_of.nd (di_list (d_calld T.f_there G_there (hr.mono (by decide)) (da_cons (d_var 0) da_nil))) (blkOk_by (N := N_wanting_of) (sc := defScope s_wanting_of) (by decide +kernel)) (fun _ _ _ _ _ => (dg_one 2 sc_wanting_of.nd (by first | exact .inl rfl | exact .inr rfl))) (fun _ _ _ _ _ => (dts_one (dt_cmp (o_eq hr.units) (d_fld T.cl_Row T.n_Row_name (d_var 2)) (d_var 1)))) (fun _ _ _ _ _ => (d_fld T.cl_Row T.n_Row_key (d_var 2))))))) ?read
  case len => rintro ds M Φ ⟨d, xs, n, rfl, _⟩; rfl
  case read =>
    rintro ds M Φ ⟨d, xs, n, rfl, nw, g, ht, sn, h⟩
    have sz : ∀ n : Nat, n ≤ 200 → n ≤ sizeLine := fun n hn => by rw [sizeLine_eq]; omega
    have lt := there_len g
    walk_at "rd"
    refine lc_pure (there xs) (rcd A.Row) (fun r => decide (r.name = n)) (fun r => Ky.d r.key) (sz _ (by omega)) (fun Ψ h => ?_) (fun r hr => ⟨_, rfl, fun Ψ h' => ?_, fun _ Φ' h' => ?_⟩) ?_
    · walk_at "rd"
      refine ⟨d, xs, rfl, nw, g, ht, ?_⟩
      walk_at "rd"
      exact h _ trivial
    · walk_at "rd"
      exact ⟨eqk_str (nameOk_str (there_ok g hr).2.1), eqk_str sn, h'⟩
    · walk_at "rd"
      exact h'
    have e : ((there xs).filter fun r => decide (r.name = n)).map (fun r => Ky.d r.key) = (wantL xs n).map Ky.d := by unfold wantL; rw [List.map_map]; rfl
    rw [e]
    exact Fin.pure h
def sp_wanting (A : Ad) : ASp := sp_wanting_of A
theorem ok_wanting (G_look_deeds : OkD P w K mg base A.look_deeds A.d_look_deeds ["deeds"] 3 (sp_look_deeds)) (G_wanting_of : OkD P w K mg base A.wanting_of A.d_wanting_of ["deeds", "name"] 5 (sp_wanting_of A)) : OkD P w K mg base A.wanting A.d_wanting ["deeds", "name"] 6 (sp_wanting A) := by
  refine def_ok T.f_wanting.F sc_wanting ?len (fun cdv Ar outer s H E hr =>
      (db_cons (ds_expr (d_calld T.f_look_deeds G_look_deeds (hr.mono (by decide)) (da_cons (d_var 0) da_nil)))
      (db_one (ds_ret (d_calld T.f_wanting_of G_wanting_of (hr.mono (by decide)) (da_cons (d_var 0) (da_cons (d_var 1) da_nil))))))) ?read
  case len => rintro ds M Φ ⟨d, xs, n, rfl, _⟩; rfl
  case read =>
    rintro ds M Φ ⟨d, xs, n, rfl, nw, g, ht, sn, h⟩
    walk_at "rd"
    exact ⟨d, xs, rfl, nw, g, d, xs, n, rfl, nw, g, ht, sn, Fin.pure h⟩
def sp_faces (A : Ad) : ASp := fun ds M Φ => ∃ (d : D) (xs : List Dd), ds = [d] ∧ Now M d (.lst (xs.map Dd.d)) ∧ Good xs ∧ (A.Pt, MO.tab lamq) ∈ M ∧ Φ (facesD xs) M
theorem ok_faces (G_named : OkD P w K mg base A.named A.d_named ["deeds"] 5 (sp_named A.Row A.Pt)) : OkD P w K mg base A.faces A.d_faces ["deeds"] 6 (sp_faces A) := by
  refine def_ok T.f_faces.F sc_faces ?len (fun cdv Ar outer s H E hr =>
      (db_one (ds_ret (d_callTy (c_dict rfl (lt2 (units65 hr))) T.b_dict (by decide +kernel) (da_cons (d_lc [("name", 1), ("one", 2)] rfl sc_faces.nd (di_list (d_calld T.f_named G_named (hr.mono (by decide)) (da_cons (d_var 0) da_nil))) (blkOk_by (N := N_faces) (sc := defScope s_faces) (by decide +kernel)) (fun _ _ _ _ _ => (dg_many [1, 2] rfl (pgs_cons (pg_name (i := 1) sc_faces.nd rfl (by first | exact .inl rfl | exact .inr rfl)) (pgs_cons (pg_name (i := 2) sc_faces.nd rfl (by first | exact .inl rfl | exact .inr rfl)) pgs_nil)))) (fun _ _ _ _ _ => dts_nil) (fun _ _ _ _ _ => (d_tup (da_cons (d_fld T.cl_Row T.n_Row_key (d_var 2)) (da_cons (d_tup (da_cons (d_var 1) (da_cons (d_fld T.cl_Row T.n_Row_worth (d_var 2)) da_nil))) da_nil))))) da_nil))))) ?read
  case len => rintro ds M Φ ⟨d, xs, rfl, _⟩; rfl
  case read =>
    rintro ds M Φ ⟨d, xs, rfl, nw, g, ht, h⟩
    have sz : ∀ n : Nat, n ≤ 200 → n ≤ sizeLine := fun n hn => by rw [sizeLine_eq]; omega
    have lt : (shown (there xs)).length < 64 := by rw [shown_length]; exact there_len g
    walk_at "rd"
    refine lc_all (shown (there xs)) (showD A.Row) (fun p => .tup [Ky.d p.2.key, faceD p]) (sz _ (by omega)) (fun Ψ h => ?_) (fun p hp => ⟨_, rfl, fun Φ' h' => ?_⟩) ?_
    · walk_at "rd"
      refine ⟨d, xs, rfl, nw, g, ht, ?_⟩
      walk_at "rd"
      exact h _ trivial
    · walk_at "rd"
      exact h'
    refine ⟨_, facesL xs, rfl, ?_, faces_nd g, Fin.pure h⟩
    have e : ((facesL xs).map fun p => D.tup [keyT p.1, p.2]) = (shown (there xs)).map fun p => D.tup [Ky.d p.2.key, faceD p] := by unfold facesL kvOf; rw [List.map_map]; rfl
    rw [e]
    exact .self _
def sp_silent (A : Ad) : ASp := fun ds M Φ => ∃ (d : D) (xs : List Dd), ds = [d] ∧ Now M d (.lst (xs.map Dd.d)) ∧ Good xs ∧ (A.Pt, MO.tab lamq) ∈ M ∧ Φ (.lst (((ordd xs).filter fun x => dicEqB (facesL ((ordd xs).filter fun y => !decide (y = x))) (facesL (ordd xs))).map Dd.d)) M
theorem ok_silent (G_look_deeds : OkD P w K mg base A.look_deeds A.d_look_deeds ["deeds"] 3 (sp_look_deeds)) (G_in_order : OkD P w K mg base A.in_order A.d_in_order ["deeds"] 1 (sp_in_order)) (G_faces : OkD P w K mg base A.faces A.d_faces ["deeds"] 6 (sp_faces A)) : OkD P w K mg base A.silent A.d_silent ["deeds"] 7 (sp_silent A) := by
  refine def_ok T.f_silent.F sc_silent ?len (fun cdv Ar outer s H E hr =>
      (db_cons (ds_expr (d_calld T.f_look_deeds G_look_deeds (hr.mono (by decide)) (da_cons (d_var 0) da_nil)))
      (db_cons (ds_set 1 sc_silent.nd (.inr rfl) (d_calld T.f_in_order G_in_order (hr.mono (by decide)) (da_cons (d_var 0) da_nil)))
      (db_cons (ds_set 2 sc_silent.nd (.inr rfl) (d_calld T.f_faces G_faces (hr.mono (by decide)) (da_cons (d_var 1) da_nil)))
      (db_one (ds_ret (d_lc [("deed", 3)] rfl sc_silent.nd (di_list (d_var 1)) (blkOk_by (N := N_silent) (sc := defScope s_silent) (by decide +kernel)) (fun _ _ _ _ _ => (dg_one 3 sc_silent.nd (by first | exact .inl rfl | exact .inr rfl))) (fun _ _ _ _ _ => (dts_one (dt_cmp (o_eqDic (units65 hr)) (d_calld T.f_faces G_faces (hr.mono (by decide)) (da_cons (d_lc [("one", 4)] rfl sc_silent.nd (di_list (d_var 1)) (blkOk_by (N := N_silent) (sc := sc_silent1) (by decide +kernel)) (fun _ _ _ _ _ => (dg_one 4 sc_silent.nd (by first | exact .inl rfl | exact .inr rfl))) (fun _ _ _ _ _ => (dts_one (dt_cmp (o_ne hr.units) (d_var 4) (d_var 3)))) (fun _ _ _ _ _ => (d_var 4))) da_nil)) (d_var 2)))) (fun _ _ _ _ _ => (d_var 3))))))))) ?read
  case len => rintro ds M Φ ⟨d, xs, rfl, _⟩; rfl
  case read =>
    rintro ds M Φ ⟨d, xs, rfl, nw, g, ht, h⟩
    have sz : ∀ n : Nat, n ≤ 200 → n ≤ sizeLine := fun n hn => by rw [sizeLine_eq]; omega
    have lo : (ordd xs).length < 64 := g.ordd.few
    walk_at "rd"
    refine ⟨d, xs, rfl, nw, g, d, xs, rfl, nw, g, ?_⟩
    refine ⟨_, ordd xs, rfl, .self _, g.ordd, ht, ?_⟩
    refine lc_pure (ordd xs) Dd.d (fun x => dicEqB (facesL ((ordd xs).filter fun y => !decide (y = x))) (facesL (ordd xs))) Dd.d (sz _ (by omega)) (fun Ψ h => ?_) (fun x hx => ⟨_, rfl, fun Ψ h' => ?_, fun _ Φ' h' => ?_⟩) ?_
    · walk_at "rd"
      exact h _ trivial
    · walk_at "rd"
      refine lc_pure (ordd xs) Dd.d (fun y => !decide (y = x)) Dd.d (sz _ (by omega)) (fun Ψ h => ?_) (fun y hy => ⟨_, rfl, fun Ψ h' => ?_, fun _ Φ' h' => ?_⟩) ?_
      · walk_at "rd"
        exact h _ trivial
      · walk_at "rd"
        refine ⟨_, .self _, _, .self _, eqk_dd (g.ordd.ok y hy), eqk_dd (g.ordd.ok x hx), ?_⟩
        rw [eqb_dd]
        exact h'
      · walk_at "rd"
        exact h'
      have gf : Good ((ordd xs).filter fun y => !decide (y = x)) := g.ordd.sub (fun z hz => (List.mem_filter.mp hz).1) (List.length_filter_le _ _)
      exact ⟨_, _, rfl, .self _, gf, ht, _, _, faces_dic _ _, faces_dic _ _, faces_ok gf, faces_ok g.ordd, _, rfl, h'⟩
    · walk_at "rd"
      exact h'
    · exact Fin.pure h
end
end NF
namespace NF
open PySem L2
local macro_rules | `(tactic| walk_at "rd") => `(tactic| simp only [wDrop, wRet, wSet, wIfS, wDPut, wFld, wSetFld, wCall, wCB, wMake, wVar, wC, wOp, wTest, wChain, wAndV, wOrV, wNotV, wAnd, wOr, wNot, wIf, wTruth, wNil, wCons, wTup, wLst, wLstO, wDict, aInt, aIntC, ix_tup, ix_lst, ix_str, ix_scr, len_lst, len_tup, len_scr, len_str, add_int, add_str, add_tup, add_lst, sl_tup, sl_lst, tru_bl, tru_non, tru_int, tru_lst, tru_tup, tru_scr, ex_key, sl_dd, ix_dd0, ix_dd2, eqk_word, wd_new, wd_name, wd_worth, wd_drop, ix_n3, ix_n4, ix_m3, ix_m4, ix_w3, ix_w4, ix_d3, eqk_new, eqk_name, eqk_worth, eqk_drop, w_nn, w_wn, w_dn, w_nd, w_wd, w_wm, w_dm, w_dw, w_nw, w_ed, w_em, w_ew, ix_nm0, ix_nm1, now_table, eqb_dd, eqb_self, wSl, wNoPart, wPart, wSeq, wNext, wNever, wCont, wBreak, wNeg, wYes, wBM, aAppend, aStr, aIntB, wIter, wIterT, wIterS, wRng1, wRev, wLenSet, wDGet, wDGet2, wDIn, wKeys, wVals, aEq, aNe, aAll, aNotInK, lt_int, lt_key, eqb_nil, eqk_nil, ge_key, List.cons.injEq, D.op.injEq, V.ref.injEq, Option.isSome_some, Option.isSome_none, aInSign, Tg.put, putAll, gwipe,
  now_int, now_str, now_tup, now_lst, now_non, now_bl, now_opt, eqb_opt, eqb_so, ins_rcd, f_key, f_name, f_since, f_worth, f_gone, eqk_int, eqk_non, eqk_key, eqb_int, eqb_str, eqb_key, atI_0, atI_1, atI_2, atI_3, atI_4, atI_last, cut_2, List.take_succ_cons, List.take_zero, true_and, and_true, if_true,
  startD, List.map_cons, List.map_nil, List.length_cons, List.length_nil, List.cons_append, List.nil_append, List.replicate, List.getElem?_cons_zero, List.getElem?_cons_succ, List.set_cons_zero, List.set_cons_succ, Option.some.injEq, exists_eq_left, exists_eq_left', D.int.injEq, D.str.injEq, D.bl.injEq, D.tup.injEq, D.lst.injEq, exists_and_left, exists_and_right, Nat.reduceAdd, Nat.reduceSub, Int.cast_ofNat_Int, Bool.false_eq_true, false_imp_iff, true_imp_iff, reduceCtorEq, decide_eq_true_eq, decide_eq_false_iff_not, decide_true, decide_false, not_true_eq_false, not_false_eq_true, Bool.not_true, Bool.not_false, Bool.not_eq_true', Bool.not_eq_false', ne_eq, and_self, implies_true, ↓reduceIte, aIsN, D.isNon, xMeth, xMake, xIf, xCall, xSet, xDrop, xRet, xIfS, xSeq, xRaise, xOf, sOfX, xFld, sz_0, sz_1, sz_2, sz_3, sz_4, wPar, wSortSet, ix_m3, ix_w3, ix_d3, ix_n3])
local macro_rules | `(tactic| walk_at "rdd") => `(tactic| simp only [wDrop, wRet, wSet, wIfS, wDPut, wFld, wSetFld, wCall, wCB, wMake, wVar, wC, wOp, wTest, wChain, wAndV, wOrV, wNotV, wAnd, wOr, wNot, wIf, wTruth, wNil, wCons, wTup, wLst, wLstO, wDict, aInt, aIntC, ix_tup, ix_lst, ix_str, ix_scr, len_lst, len_tup, len_scr, len_str, add_int, add_str, add_tup, add_lst, sl_tup, sl_lst, tru_bl, tru_non, tru_int, tru_lst, tru_tup, tru_scr, ex_key, Dd.d, Dd.key, Dd.word, Dd.tl, eqk_new, eqk_name, eqk_worth, eqk_drop, w_nn, w_wn, w_dn, w_nd, w_wd, w_wm, w_dm, w_dw, w_nw, w_ed, w_em, w_ew, ix_nm0, ix_nm1, now_table, eqb_dd, eqb_self, wSl, wNoPart, wPart, wSeq, wNext, wNever, wCont, wBreak, wNeg, wYes, wBM, aAppend, aStr, aIntB, wIter, wIterT, wIterS, wRng1, wRev, wLenSet, wDGet, wDGet2, wDIn, wKeys, wVals, aEq, aNe, aAll, aNotInK, lt_int, lt_key, eqb_nil, eqk_nil, ge_key, List.cons.injEq, D.op.injEq, V.ref.injEq, Option.isSome_some, Option.isSome_none, aInSign, Tg.put, putAll, gwipe,
  now_int, now_str, now_tup, now_lst, now_non, now_bl, now_opt, eqb_opt, eqb_so, ins_rcd, f_key, f_name, f_since, f_worth, f_gone, eqk_int, eqk_non, eqk_key, eqb_int, eqb_str, eqb_key, atI_0, atI_1, atI_2, atI_3, atI_4, atI_last, cut_2, List.take_succ_cons, List.take_zero, true_and, and_true, if_true,
  startD, List.map_cons, List.map_nil, List.length_cons, List.length_nil, List.cons_append, List.nil_append, List.replicate, List.getElem?_cons_zero, List.getElem?_cons_succ, List.set_cons_zero, List.set_cons_succ, Option.some.injEq, exists_eq_left, exists_eq_left', D.int.injEq, D.str.injEq, D.bl.injEq, D.tup.injEq, D.lst.injEq, exists_and_left, exists_and_right, Nat.reduceAdd, Nat.reduceSub, Int.cast_ofNat_Int, Bool.false_eq_true, false_imp_iff, true_imp_iff, reduceCtorEq, decide_eq_true_eq, decide_eq_false_iff_not, decide_true, decide_false, not_true_eq_false, not_false_eq_true, Bool.not_true, Bool.not_false, Bool.not_eq_true', Bool.not_eq_false', ne_eq, and_self, implies_true, ↓reduceIte, aIsN, D.isNon, xMeth, xMake, xIf, xCall, xSet, xDrop, xRet, xIfS, xSeq, xRaise, xOf, sOfX, xFld, sz_0, sz_1, sz_2, sz_3, sz_4, wPar, wSortSet, ix_m3, ix_w3, ix_d3, ix_n3])
local macro_rules | `(tactic| walk_at "rq") => `(tactic| simp only [wDrop, wRet, wSet, wIfS, wDPut, wFld, wSetFld, wCall, wCB, wMake, wVar, wC, wOp, wTest, wChain, wAndV, wOrV, wNotV, wAnd, wOr, wNot, wIf, wTruth, wNil, wCons, wTup, wLst, wLstO, wDict, aInt, aIntC, ix_tup, ix_lst, ix_str, ix_scr, len_lst, len_tup, len_scr, len_str, add_int, add_str, add_tup, add_lst, sl_tup, sl_lst, tru_bl, tru_non, tru_int, tru_lst, tru_tup, tru_scr, ex_key, sl_dd, ix_dd0, ix_dd2, eqk_word, wd_new, wd_name, wd_worth, wd_drop, ix_n3, ix_n4, ix_m3, ix_m4, ix_w3, ix_w4, ix_d3, eqk_new, eqk_name, eqk_worth, eqk_drop, w_nn, w_wn, w_dn, w_nd, w_wd, w_wm, w_dm, w_dw, w_nw, w_ed, w_em, w_ew, ix_nm0, ix_nm1, now_table, eqb_dd, eqb_self, wSl, wNoPart, wPart, wNext, wNever, wCont, wBreak, wNeg, wYes, wBM, aAppend, aStr, aIntB, wIter, wIterT, wIterS, wRng1, wRev, wLenSet, wDGet, wDGet2, wDIn, wKeys, wVals, aEq, aNe, aAll, aNotInK, lt_int, lt_key, eqb_nil, eqk_nil, ge_key, List.cons.injEq, D.op.injEq, V.ref.injEq, Option.isSome_some, Option.isSome_none, aInSign, Tg.put, putAll, gwipe,
  now_int, now_str, now_tup, now_lst, now_non, now_bl, now_opt, eqb_opt, eqb_so, ins_rcd, f_key, f_name, f_since, f_worth, f_gone, eqk_int, eqk_non, eqk_key, eqb_int, eqb_str, eqb_key, atI_0, atI_1, atI_2, atI_3, atI_4, atI_last, cut_2, List.take_succ_cons, List.take_zero, true_and, and_true, if_true,
  startD, List.map_cons, List.map_nil, List.length_cons, List.length_nil, List.cons_append, List.nil_append, List.replicate, List.getElem?_cons_zero, List.getElem?_cons_succ, List.set_cons_zero, List.set_cons_succ, Option.some.injEq, exists_eq_left, exists_eq_left', D.int.injEq, D.str.injEq, D.bl.injEq, D.tup.injEq, D.lst.injEq, exists_and_left, exists_and_right, Nat.reduceAdd, Nat.reduceSub, Int.cast_ofNat_Int, Bool.false_eq_true, false_imp_iff, true_imp_iff, reduceCtorEq, decide_eq_true_eq, decide_eq_false_iff_not, decide_true, decide_false, not_true_eq_false, not_false_eq_true, Bool.not_true, Bool.not_false, Bool.not_eq_true', Bool.not_eq_false', ne_eq, and_self, implies_true, ↓reduceIte, aIsN, D.isNon, xMeth, xMake, xIf, xCall, xSet, xDrop, xRet, xIfS, xSeq, xRaise, xOf, sOfX, xFld, sz_0, sz_1, sz_2, sz_3, sz_4, wPar, wSortSet, ix_m3, ix_w3, ix_d3, ix_n3])
/-- deeds that tell a row's worth -/
def tellsW (k : Ky) : Dd → Bool
  | .new j _ _ => decide (j = k)
  | .worth _ a _ => decide (a = k)
  | _ => false
def optX : Option Dd → D
  | none => .non
  | some x => x.d
noncomputable def sinceX (xs : List Dd) (s : Ky) : Option Dd := (xs.filter fun x => decide (x.key = s)).getLast?
noncomputable def worthX (xs : List Dd) (k : Ky) : Option Dd := (xs.filter (tellsW k)).getLast?
noncomputable def whyD (xs : List Dd) (r : Rc) : D := .tup [optX (sinceX (ordd xs) r.since), optX (worthX (ordd xs) r.key), .lst ((rivalsOf xs r).map fun q => Ky.d q.key)]
theorem want_split {xs : List Dd} (g : Good xs) {r : Rc} (hr : r ∈ there xs) : ∃ l, wantL xs r.name = (rivalsOf xs r).map Rc.key ++ r.key :: l ∧ r.key ∉ (rivalsOf xs r).map Rc.key := by
  obtain ⟨l1, l2, e⟩ := List.append_of_mem hr
  have rv := rivals_at g e
  refine ⟨(l2.filter fun q => decide (q.name = r.name)).map Rc.key, ?_, fun m => ?_⟩
  · unfold wantL
    rw [e, List.filter_append, List.filter_cons_of_pos (by simp), List.map_append, List.map_cons, rv]
  · rw [rv] at m
    obtain ⟨q, hq, eq⟩ := List.mem_map.mp m
    have nd := there_kn g
    rw [e, List.map_append, List.nodup_append] at nd
    exact nd.2.2 q.key (List.mem_map.mpr ⟨q, (List.mem_filter.mp hq).1, rfl⟩) r.key (by simp) eq
theorem worth_some {xs : List Dd} {r : Rc} (hr : r ∈ there xs) : ∃ x, worthX (ordd xs) r.key = some x := by
  obtain ⟨x, hx, nw, kx⟩ := row_new_deed hr
  have m : x ∈ (ordd xs).filter (tellsW r.key) := List.mem_filter.mpr ⟨mem_ordd.mpr hx, by cases x <;> simp [isNew] at nw; simpa [tellsW, Dd.key] using kx⟩
  unfold worthX
  cases e : ((ordd xs).filter (tellsW r.key)).getLast? with
  | none => rw [List.getLast?_eq_none_iff.mp e] at m; cases m
  | some y => exact ⟨y, rfl⟩
def J_why (d : D) (k : Ky) (rd : D) (p : Addr) (xs : List Dd) (s : Ky) (M : Mp) (i : Nat) (Γ' : Ctx) (M' : Mp) : Prop := ∃ v5, Γ' = [some d, some (Ky.d k), some rd, some (.op (.ref p)), some (optX (sinceX ((ordd xs).take i) s)), v5] ∧ M' = (p, MO.lst ((((ordd xs).take i).filter (tellsW k)).map Dd.d)) :: M
section
variable {P : Program} {w : World} {K : PySem.W.Frag} {mg : Str → Option Value} {base : Heap} {A : Ad} (T : Tx K w mg A)
include T
def spx_why (A : Ad) : ASpX := fun ds M Φ Ξ => ∃ (d : D) (xs : List Dd) (k : Ky), ds = [d, Ky.d k] ∧ Now M d (.lst (xs.map Dd.d)) ∧ Good xs ∧ (A.Pt, MO.tab lamq) ∈ M ∧ ((∃ r, rowAt xs k = some r ∧ Φ (whyD xs r) M) ∨ (rowAt xs k = none ∧ Ξ A.NoRow M))
theorem okx_why (G_look_deeds : OkD P w K mg base A.look_deeds A.d_look_deeds ["deeds"] 3 (sp_look_deeds)) (GX_row_there : OkX P w K mg base A.row_there A.d_row_there ["deeds", "key"] 5 (spx_row_there A)) (G_in_order : OkD P w K mg base A.in_order A.d_in_order ["deeds"] 1 (sp_in_order)) (G_wanting_of : OkD P w K mg base A.wanting_of A.d_wanting_of ["deeds", "name"] 5 (sp_wanting_of A)) : OkX P w K mg base A.why A.d_why ["deeds", "key"] 6 (spx_why A) := by
  refine def_okX T.f_why.F sc_why ?len (fun cdv Ar outer s H E hr =>
      (bx_cons (s_of (ds_expr (d_calld T.f_look_deeds G_look_deeds (hr.mono (by decide)) (da_cons (d_var 0) da_nil))))
      (bx_cons (sx_set 2 sc_why.nd (.inl rfl) (x_call (takes_of rfl rfl rfl rfl) T.f_row_there GX_row_there (hr.mono (by decide)) (da_cons (d_var 0) (da_cons (d_var 1) da_nil))))
      (b_of (db_cons (ds_set 3 sc_why.nd (.inl rfl) (d_lstO da_nil))
      (db_cons (ds_set 4 sc_why.nd (.inl rfl) d_non)
      (db_cons (ds_for (passes_of rfl) rfl (di_list (d_calld T.f_in_order G_in_order (hr.mono (by decide)) (da_cons (d_var 0) da_nil))) (dg_one 5 sc_why.nd (.inl rfl))
      (db_cons (ds_if (PW.pt (dw_or (PW.pt (dw_and (dt_cmp (o_eq hr.units) (d_ix (d_var 5) d_int) d_str) (dw_and1 (dt_cmp (o_eq hr.units) (d_sl (d_var 5) do_none (do_some d_int)) (d_var 1))))) (dw_or1 (PW.pt (dw_and (dt_cmp (o_eq hr.units) (d_ix (d_var 5) d_int) d_str) (dw_and1 (dt_cmp (o_eq hr.units) (d_ix (d_var 5) d_int) (d_var 1)))))))) (db_one (ds_expr (d_bm PySem.F.plainAttrs_list PySem.F.slot_list_append PySem.F.type_list_append m_append (d_var 3) (da_cons (d_var 5) da_nil)))) db_nil)
      (db_one (ds_if (dt_cmp (o_eq hr.units) (d_sl (d_var 5) do_none (do_some d_int)) (d_fld T.cl_Row T.n_Row_since (d_var 2))) (db_one (ds_set 4 sc_why.nd (.inl rfl) (d_var 5))) db_nil))))
      (db_one (ds_ret (d_tup (da_cons (d_var 4) (da_cons (d_ix (d_var 3) (d_neg d_int)) (da_cons (d_sl (d_calld T.f_wanting_of G_wanting_of (hr.mono (by decide)) (da_cons (d_var 0) (da_cons (d_fld T.cl_Row T.n_Row_name (d_var 2)) da_nil))) do_none (do_some (d_bm PySem.F.plainAttrs_list PySem.F.slot_list_index PySem.F.type_list_index (m_index (units65 hr)) (d_calld T.f_wanting_of G_wanting_of (hr.mono (by decide)) (da_cons (d_var 0) (da_cons (d_fld T.cl_Row T.n_Row_name (d_var 2)) da_nil))) (da_cons (d_var 1) da_nil)))) da_nil))))))))))))) ?read
  case len => rintro ds M Φ Ξ ⟨d, xs, k, rfl, _⟩; rfl
  case read =>
    rintro ds M Φ Ξ ⟨d, xs, k, rfl, nw, g, ht, h⟩
    have sz : ∀ n : Nat, n ≤ 200 → n ≤ sizeLine := fun n hn => by rw [sizeLine_eq]; omega
    have lo : (ordd xs).length < 64 := g.ordd.few
    walk_at "rd"
    refine ⟨d, xs, rfl, nw, g, d, xs, k, rfl, nw, g, ht, ?_⟩
    rcases h with ⟨r, er, h⟩ | ⟨er, h⟩
    · obtain ⟨hr, kr⟩ := rowAt_some er
      refine .inl ⟨r, er, fun p hp => ?_⟩
      refine for_typed (ordd xs) Dd.d (fun _ => True) (J_why d k (rcd A.Row r) p xs r.since M) (fun Ψ h => ?_) ⟨_, rfl, rfl⟩ (fun _ _ _ _ => trivial) ?_ ?_
      · walk_at "rd"
        refine ⟨d, xs, rfl, nw.cons _, g, ?_⟩
        walk_at "rd"
        exact h
      · rintro i x Γ' M' hx ⟨v5, rfl, rfl⟩
        have hi := (List.getElem?_eq_some_iff.mp hx).1
        have tm := take_more hx
        have ts : sinceX ((ordd xs).take (i + 1)) r.since = if x.key = r.since then some x else sinceX ((ordd xs).take i) r.since := by
          unfold sinceX
          rw [tm, List.filter_append]
          by_cases c : x.key = r.since
          · rw [if_pos c, List.filter_cons_of_pos (by simpa using c)]
            simp
          · rw [if_neg c, List.filter_cons_of_neg (by simpa using c)]
            simp
        have tw : (((ordd xs).take (i + 1)).filter (tellsW k)).map Dd.d = (((ordd xs).take i).filter (tellsW k)).map Dd.d ++ if tellsW k x = true then [x.d] else [] := by
          rw [tm, List.filter_append, List.map_append]
          by_cases c : tellsW k x = true
          · rw [if_pos c, List.filter_cons_of_pos c]
            rfl
          · rw [if_neg c, List.filter_cons_of_neg c]
            rfl
        have lw : (((ordd xs).take i).filter (tellsW k)).length < 64 := Nat.lt_of_le_of_lt (List.length_filter_le _ _) (by rw [List.length_take]; omega)
        have fin : ∀ l, l = (((ordd xs).take (i + 1)).filter (tellsW k)).map Dd.d → (x.key = r.since → J_why d k (rcd A.Row r) p xs r.since M (i + 1) [some d, some (Ky.d k), some (rcd A.Row r), some (.op (.ref p)), some x.d, some x.d] ((p, MO.lst l) :: M)) ∧ (¬ x.key = r.since → J_why d k (rcd A.Row r) p xs r.since M (i + 1) [some d, some (Ky.d k), some (rcd A.Row r), some (.op (.ref p)), some (optX (sinceX ((ordd xs).take i) r.since)), some x.d] ((p, MO.lst l) :: M)) := fun l el => by
          subst el
          refine ⟨fun c => ⟨some x.d, ?_, rfl⟩, fun c => ⟨some x.d, ?_, rfl⟩⟩
          · rw [ts, if_pos c]
            rfl
          · rw [ts, if_neg c]
        refine ⟨_, rfl, ?_⟩
        have app : tellsW k x = true → ((p, MO.lst ((((ordd xs).take i).filter (tellsW k)).map Dd.d)) :: M) = [] ++ (p, MO.lst ((((ordd xs).take i).filter (tellsW k)).map Dd.d)) :: M ∧ (((ordd xs).take i).filter (tellsW k)).map Dd.d ++ [x.d] = (((ordd xs).take (i + 1)).filter (tellsW k)).map Dd.d := fun c => ⟨rfl, by rw [tw, if_pos c]⟩
        have non : ¬ tellsW k x = true → (((ordd xs).take i).filter (tellsW k)).map Dd.d = (((ordd xs).take (i + 1)).filter (tellsW k)).map Dd.d := fun c => by rw [tw, if_neg c, List.append_nil]
        have sl : ((((ordd xs).take i).filter (tellsW k)).map Dd.d).length < sizeLine := by rw [List.length_map, sizeLine_eq]; omega
        cases x with
        | new j n v =>
          walk_at "rd"
          exact ⟨fun c => ⟨⟨_, List.mem_cons_self ..⟩, _, [], _, rfl, sl, fin _ (app (decide_eq_true c)).2⟩, fun c => fin _ (non (by simpa [tellsW, Dd.key] using c))⟩
        | name j a n =>
          walk_at "rd"
          exact fin _ (non (by simp [tellsW]))
        | worth j a n =>
          walk_at "rd"
          exact ⟨fun c => ⟨⟨_, List.mem_cons_self ..⟩, _, [], _, rfl, sl, fin _ (app (decide_eq_true c)).2⟩, fun c => fin _ (non (by simpa [tellsW] using c))⟩
        | drop j a =>
          walk_at "rd"
          exact fin _ (non (by simp [tellsW]))
      · rintro Γ' M' ⟨v5, rfl, rfl⟩
        rw [List.take_length]
        obtain ⟨xw, ew⟩ := worth_some hr
        obtain ⟨l, el, nk⟩ := want_split g hr
        have nt : Now ((p, MO.lst (((ordd xs).filter (tellsW k)).map Dd.d)) :: M) d (.lst (xs.map Dd.d)) := nw.cons _
        have sn := nameOk_str (there_ok g hr).2.1
        walk_at "rd"
        subst kr
        have ht' : (A.Pt, MO.tab lamq) ∈ (p, MO.lst (((ordd xs).filter (tellsW r.key)).map Dd.d)) :: M := List.mem_cons_of_mem _ ht
        refine ix_op.mpr ⟨_, xw.d, List.mem_cons_self .., ?_, ?_⟩
        · rw [atI_last, List.getLast?_map]
          unfold worthX at ew
          rw [ew]
          rfl
        refine ⟨d, xs, r.name, rfl, nt, g, ht', sn, d, xs, r.name, rfl, nt, g, ht', sn, trivial, ?_⟩
        have lj : ((rivalsOf xs r).map Rc.key).length = (rivalsOf xs r).length := List.length_map ..
        refine .inr ⟨_, Ky.d r.key, (rivalsOf xs r).length, .self _, rfl, eqk_keys _, eqk_key, ?_, fun m hm e => ?_, _, rfl, sl_lst.mpr ?_⟩
        · rw [el, List.getElem?_map, List.getElem?_append_right (by omega), lj, Nat.sub_self]
          rfl
        · rw [el, List.getElem?_map, List.getElem?_append_left (by omega)] at e
          obtain ⟨y, hy, ey⟩ := Option.map_eq_some_iff.mp e
          have e2 : y = r.key := by
            simp only [D.tup.injEq, List.cons.injEq, D.int.injEq, and_true] at ey
            exact Prod.ext ey.1 ey.2
          rw [e2] at hy
          exact nk (List.mem_of_getElem? hy)
        · rw [cut_nat, ← List.map_take, el, List.take_append_of_le_length (by omega), ← lj, List.take_length, List.map_map]
          refine Fin.lose (List.sublist_cons_self _ _) ?_
          unfold whyD at h
          rw [ew] at h
          exact h
    · exact .inr ⟨er, FinX.pure h⟩
end
end NF
namespace NF
open PySem L2
local macro_rules | `(tactic| walk_at "rd") => `(tactic| simp only [wDrop, wRet, wSet, wIfS, wDPut, wFld, wSetFld, wCall, wCB, wMake, wVar, wC, wOp, wTest, wChain, wAndV, wOrV, wNotV, wAnd, wOr, wNot, wIf, wTruth, wNil, wCons, wTup, wLst, wLstO, wDict, aInt, aIntC, ix_tup, ix_lst, ix_str, ix_scr, len_lst, len_tup, len_scr, len_str, add_int, add_str, add_tup, add_lst, sl_tup, sl_lst, tru_bl, tru_non, tru_int, tru_lst, tru_tup, tru_scr, ex_key, sl_dd, ix_dd0, ix_dd2, eqk_word, wd_new, wd_name, wd_worth, wd_drop, ix_n3, ix_n4, ix_m3, ix_m4, ix_w3, ix_w4, ix_d3, eqk_new, eqk_name, eqk_worth, eqk_drop, w_nn, w_wn, w_dn, w_nd, w_wd, w_wm, w_dm, w_dw, w_nw, w_ed, w_em, w_ew, ix_nm0, ix_nm1, now_table, eqb_dd, eqb_self, wSl, wNoPart, wPart, wSeq, wNext, wNever, wCont, wBreak, wNeg, wYes, wBM, aAppend, aStr, aIntB, wIter, wIterT, wIterS, wRng1, wRev, wLenSet, wDGet, wDGet2, wDIn, wKeys, wVals, aEq, aNe, aAll, aNotInK, lt_int, lt_key, eqb_nil, eqk_nil, ge_key, List.cons.injEq, D.op.injEq, V.ref.injEq, Option.isSome_some, Option.isSome_none, aInSign, Tg.put, putAll, gwipe,
  now_int, now_str, now_tup, now_lst, now_non, now_bl, now_opt, eqb_opt, eqb_so, ins_rcd, f_key, f_name, f_since, f_worth, f_gone, eqk_int, eqk_non, eqk_key, eqb_int, eqb_str, eqb_key, atI_0, atI_1, atI_2, atI_3, atI_4, atI_last, cut_2, List.take_succ_cons, List.take_zero, true_and, and_true, if_true,
  startD, List.map_cons, List.map_nil, List.length_cons, List.length_nil, List.cons_append, List.nil_append, List.replicate, List.getElem?_cons_zero, List.getElem?_cons_succ, List.set_cons_zero, List.set_cons_succ, Option.some.injEq, exists_eq_left, exists_eq_left', D.int.injEq, D.str.injEq, D.bl.injEq, D.tup.injEq, D.lst.injEq, exists_and_left, exists_and_right, Nat.reduceAdd, Nat.reduceSub, Int.cast_ofNat_Int, Bool.false_eq_true, false_imp_iff, true_imp_iff, reduceCtorEq, decide_eq_true_eq, decide_eq_false_iff_not, decide_true, decide_false, not_true_eq_false, not_false_eq_true, Bool.not_true, Bool.not_false, Bool.not_eq_true', Bool.not_eq_false', ne_eq, and_self, implies_true, ↓reduceIte, aIsN, D.isNon, sz_0, sz_1, sz_2, sz_3, sz_4, wPar, wSortSet, wDGet2])
local macro_rules | `(tactic| walk_at "rdd") => `(tactic| simp only [wDrop, wRet, wSet, wIfS, wDPut, wFld, wSetFld, wCall, wCB, wMake, wVar, wC, wOp, wTest, wChain, wAndV, wOrV, wNotV, wAnd, wOr, wNot, wIf, wTruth, wNil, wCons, wTup, wLst, wLstO, wDict, aInt, aIntC, ix_tup, ix_lst, ix_str, ix_scr, len_lst, len_tup, len_scr, len_str, add_int, add_str, add_tup, add_lst, sl_tup, sl_lst, tru_bl, tru_non, tru_int, tru_lst, tru_tup, tru_scr, ex_key, Dd.d, Dd.key, Dd.word, Dd.tl, eqk_new, eqk_name, eqk_worth, eqk_drop, w_nn, w_wn, w_dn, w_nd, w_wd, w_wm, w_dm, w_dw, w_nw, w_ed, w_em, w_ew, ix_nm0, ix_nm1, now_table, eqb_dd, eqb_self, wSl, wNoPart, wPart, wSeq, wNext, wNever, wCont, wBreak, wNeg, wYes, wBM, aAppend, aStr, aIntB, wIter, wIterT, wIterS, wRng1, wRev, wLenSet, wDGet, wDGet2, wDIn, wKeys, wVals, aEq, aNe, aAll, aNotInK, lt_int, lt_key, eqb_nil, eqk_nil, ge_key, List.cons.injEq, D.op.injEq, V.ref.injEq, Option.isSome_some, Option.isSome_none, aInSign, Tg.put, putAll, gwipe,
  now_int, now_str, now_tup, now_lst, now_non, now_bl, now_opt, eqb_opt, eqb_so, ins_rcd, f_key, f_name, f_since, f_worth, f_gone, eqk_int, eqk_non, eqk_key, eqb_int, eqb_str, eqb_key, atI_0, atI_1, atI_2, atI_3, atI_4, atI_last, cut_2, List.take_succ_cons, List.take_zero, true_and, and_true, if_true,
  startD, List.map_cons, List.map_nil, List.length_cons, List.length_nil, List.cons_append, List.nil_append, List.replicate, List.getElem?_cons_zero, List.getElem?_cons_succ, List.set_cons_zero, List.set_cons_succ, Option.some.injEq, exists_eq_left, exists_eq_left', D.int.injEq, D.str.injEq, D.bl.injEq, D.tup.injEq, D.lst.injEq, exists_and_left, exists_and_right, Nat.reduceAdd, Nat.reduceSub, Int.cast_ofNat_Int, Bool.false_eq_true, false_imp_iff, true_imp_iff, reduceCtorEq, decide_eq_true_eq, decide_eq_false_iff_not, decide_true, decide_false, not_true_eq_false, not_false_eq_true, Bool.not_true, Bool.not_false, Bool.not_eq_true', Bool.not_eq_false', ne_eq, and_self, implies_true, ↓reduceIte, aIsN, D.isNon, sz_0, sz_1, sz_2, sz_3, sz_4, wPar, wSortSet, wDGet2])
local macro_rules | `(tactic| walk_at "rq") => `(tactic| simp only [wDrop, wRet, wSet, wIfS, wDPut, wFld, wSetFld, wCall, wCB, wMake, wVar, wC, wOp, wTest, wChain, wAndV, wOrV, wNotV, wAnd, wOr, wNot, wIf, wTruth, wNil, wCons, wTup, wLst, wLstO, wDict, aInt, aIntC, ix_tup, ix_lst, ix_str, ix_scr, len_lst, len_tup, len_scr, len_str, add_int, add_str, add_tup, add_lst, sl_tup, sl_lst, tru_bl, tru_non, tru_int, tru_lst, tru_tup, tru_scr, ex_key, sl_dd, ix_dd0, ix_dd2, eqk_word, wd_new, wd_name, wd_worth, wd_drop, ix_n3, ix_n4, ix_m3, ix_m4, ix_w3, ix_w4, ix_d3, eqk_new, eqk_name, eqk_worth, eqk_drop, w_nn, w_wn, w_dn, w_nd, w_wd, w_wm, w_dm, w_dw, w_nw, w_ed, w_em, w_ew, ix_nm0, ix_nm1, now_table, eqb_dd, eqb_self, wSl, wNoPart, wPart, wNext, wNever, wCont, wBreak, wNeg, wYes, wBM, aAppend, aStr, aIntB, wIter, wIterT, wIterS, wRng1, wRev, wLenSet, wDGet, wDGet2, wDIn, wKeys, wVals, aEq, aNe, aAll, aNotInK, lt_int, lt_key, eqb_nil, eqk_nil, ge_key, List.cons.injEq, D.op.injEq, V.ref.injEq, Option.isSome_some, Option.isSome_none, aInSign, Tg.put, putAll, gwipe,
  now_int, now_str, now_tup, now_lst, now_non, now_bl, now_opt, eqb_opt, eqb_so, ins_rcd, f_key, f_name, f_since, f_worth, f_gone, eqk_int, eqk_non, eqk_key, eqb_int, eqb_str, eqb_key, atI_0, atI_1, atI_2, atI_3, atI_4, atI_last, cut_2, List.take_succ_cons, List.take_zero, true_and, and_true, if_true,
  startD, List.map_cons, List.map_nil, List.length_cons, List.length_nil, List.cons_append, List.nil_append, List.replicate, List.getElem?_cons_zero, List.getElem?_cons_succ, List.set_cons_zero, List.set_cons_succ, Option.some.injEq, exists_eq_left, exists_eq_left', D.int.injEq, D.str.injEq, D.bl.injEq, D.tup.injEq, D.lst.injEq, exists_and_left, exists_and_right, Nat.reduceAdd, Nat.reduceSub, Int.cast_ofNat_Int, Bool.false_eq_true, false_imp_iff, true_imp_iff, reduceCtorEq, decide_eq_true_eq, decide_eq_false_iff_not, decide_true, decide_false, not_true_eq_false, not_false_eq_true, Bool.not_true, Bool.not_false, Bool.not_eq_true', Bool.not_eq_false', ne_eq, and_self, implies_true, ↓reduceIte, aIsN, D.isNon, sz_0, sz_1, sz_2, sz_3, sz_4, wPar, wSortSet, wDGet2])
def optF : Option Sh → D
  | none => .non
  | some p => faceD p
theorem eqk_optF {o : Option Sh} (h : ∀ p, o = some p → PyData.strOk p.1 = true) : D.eqOk (optF o) := by
  cases o with
  | none => exact eqk_non
  | some p =>
    have := h p rfl
    simp [optF, faceD, D.eqOk, D.plain, D.plainAll, D.deep, D.deepAll, this]
/-- where two tables are otherwise -/
noncomputable def apk (b n : List Sh) (k : Ky) : List D := if D.eqb (optF (lookS b k)) (optF (lookS n k)) = true then [] else [.tup [Ky.d k, optF (lookS b k), optF (lookS n k)]]
noncomputable def apL (b n : List Sh) : List D := (unionK b n).flatMap (apk b n)
theorem look_face (l : List Sh) (k : Ky) : lookA (kvOf (fun p : Sh => p.2.key) faceD l) (kk k) = (lookS l k).map faceD := look_kvG l k
theorem face_get (l : List Sh) (k : Ky) : ((lookA (kvOf (fun p : Sh => p.2.key) faceD l) (kk k)).getD .non) = optF (lookS l k) := by
  rw [look_face]
  cases lookS l k <;> rfl
def J_ap (d e m t : D) (p : Addr) (b n : List Sh) (M : Mp) (i : Nat) (Γ' : Ctx) (M' : Mp) : Prop := ∃ v5, Γ' = [some d, some e, some m, some t, some (.op (.ref p)), v5] ∧ M' = (p, MO.lst (((unionK b n).take i).flatMap (apk b n))) :: M
theorem unionK_len (b n : List Sh) : (unionK b n).length ≤ b.length + n.length := by
  have h1 := List.length_filter_le (fun k => !(lookS b k).isSome) (shK n)
  have h2 : (shK b).length = b.length := by unfold shK; simp
  have h3 : (shK n).length = n.length := by unfold shK; simp
  unfold unionK
  rw [List.length_mergeSort, List.length_append]
  omega
section
variable {P : Program} {w : World} {K : PySem.W.Frag} {mg : Str → Option Value} {base : Heap} {A : Ad} (T : Tx K w mg A)
include T
def sp_apart (A : Ad) : ASp := fun ds M Φ => ∃ (d e : D) (xs ys : List Dd), ds = [d, e] ∧ Now M d (.lst (xs.map Dd.d)) ∧ Now M e (.lst (ys.map Dd.d)) ∧ Good xs ∧ Good ys ∧ (A.Pt, MO.tab lamq) ∈ M ∧ (there xs).length + (there ys).length < 64 ∧ Φ (.lst (apL (shown (there xs)) (shown (there ys)))) M
theorem ok_apart (G_look_deeds : OkD P w K mg base A.look_deeds A.d_look_deeds ["deeds"] 3 (sp_look_deeds)) (G_faces : OkD P w K mg base A.faces A.d_faces ["deeds"] 6 (sp_faces A)) : OkD P w K mg base A.apart A.d_apart ["one", "other"] 7 (sp_apart A) := by
  refine def_ok T.f_apart.F sc_apart ?len (fun cdv Ar outer s H E hr =>
      (db_cons (ds_expr (d_calld T.f_look_deeds G_look_deeds (hr.mono (by decide)) (da_cons (d_var 0) da_nil)))
      (db_cons (ds_expr (d_calld T.f_look_deeds G_look_deeds (hr.mono (by decide)) (da_cons (d_var 1) da_nil)))
      (db_cons (ds_par 2 3 rfl sc_apart.nd (by decide) (da_cons (d_calld T.f_faces G_faces (hr.mono (by decide)) (da_cons (d_var 0) da_nil)) (da_cons (d_calld T.f_faces G_faces (hr.mono (by decide)) (da_cons (d_var 1) da_nil)) da_nil)))
      (db_cons (ds_set 4 sc_apart.nd (.inl rfl) (d_lstO da_nil))
      (db_cons (ds_for PassesOwn.never rfl (di_list (d_sortedSet T.b_sorted T.b_set hr (d_op o_add (d_listKeys T.b_list hr (d_var 2)) (d_listKeys T.b_list hr (d_var 3))))) (dg_one 5 sc_apart.nd (.inl rfl))
      (db_one (ds_if (dt_cmp (o_ne hr.units) (d_dget2 (hu_of hr) (d_var 2) (d_var 5) d_non) (d_dget2 (hu_of hr) (d_var 3) (d_var 5) d_non)) (db_one (ds_expr (d_bm PySem.F.plainAttrs_list PySem.F.slot_list_append PySem.F.type_list_append m_append (d_var 4) (da_cons (d_tup (da_cons (d_var 5) (da_cons (d_dget2 (hu_of hr) (d_var 2) (d_var 5) d_non) (da_cons (d_dget2 (hu_of hr) (d_var 3) (d_var 5) d_non) da_nil)))) da_nil)))) db_nil)))
      (db_one (ds_ret (d_var 4))))))))) ?read
  case len => rintro ds M Φ ⟨d, e, xs, ys, rfl, _⟩; rfl
  case read =>
    rintro ds M Φ ⟨d, e, xs, ys, rfl, nw, nw2, g, g2, ht, ll, h⟩
    have sz : ∀ n : Nat, n ≤ 200 → n ≤ sizeLine := fun n hn => by rw [sizeLine_eq]; omega
    walk_at "rd"
    refine ⟨d, xs, rfl, nw, g, e, ys, rfl, nw2, g2, d, xs, rfl, nw, g, ht, e, ys, rfl, nw2, g2, ht, ?_⟩
    refine ⟨_, _, ⟨rfl, rfl⟩, fun p hp => ?_⟩
    have hk : ∀ l : List Sh, (kvOf (fun p : Sh => p.2.key) faceD l).map (fun p => keyT p.1) = (shK l).map Ky.d := fun l => keys_kv
    have l1 : (shK (shown (there xs))).length = (there xs).length := by unfold shK; rw [List.length_map, shown_length]
    have l2 : (shK (shown (there ys))).length = (there ys).length := by unfold shK; rw [List.length_map, shown_length]
    have lun := unionK_len (shown (there xs)) (shown (there ys))
    rw [shown_length, shown_length] at lun
    have apl : ∀ l : List Ky, (l.flatMap (apk (shown (there xs)) (shown (there ys)))).length ≤ l.length := fun l => by
      induction l with
      | nil => simp
      | cons k l ih =>
        have : (apk (shown (there xs)) (shown (there ys)) k).length ≤ 1 := by unfold apk; split <;> simp
        simp only [List.flatMap_cons, List.length_append, List.length_cons]
        omega
    refine for_typed (unionK (shown (there xs)) (shown (there ys))) Ky.d (fun _ => True) (J_ap d e (facesD xs) (facesD ys) p (shown (there xs)) (shown (there ys)) M) (fun Ψ h => ?_) ⟨_, rfl, rfl⟩ (fun _ _ _ _ => trivial) ?_ ?_
    · walk_at "rd"
      refine ⟨_, faces_dic _ xs, _, faces_dic _ ys, ?_⟩
      unfold facesL
      rw [hk, hk]
      have le : ((shK (shown (there xs))).map Ky.d ++ (shK (shown (there ys))).map Ky.d).length < 64 := by rw [List.length_append, List.length_map, List.length_map]; omega
      have em : (shK (shown (there xs))).map Ky.d ++ (shK (shown (there ys))).map Ky.d = (shK (shown (there xs)) ++ shK (shown (there ys))).map Ky.d := List.map_append.symm
      refine ⟨sz _ (by rw [List.length_map, List.length_map]; omega), le, ?_, le, fun x hx => ?_, ?_, fun L nd hL => ?_⟩
      · rw [em]; exact setAll_keys _
      · rw [em] at hx
        obtain ⟨y, _, rfl⟩ := List.mem_map.mp hx
        exact ⟨eqk_key.1, by simp [D.deep, D.deepAll]⟩
      · rw [em]; exact sorts_keys _
      · rw [em] at hL
        rw [srtK_of nd hL (unionK_nodup (there_keys g) (there_keys g2)) fun k => by rw [mem_unionK, List.mem_append]]
        exact h
    · rintro i k Γ' M' hki ⟨v5, rfl, rfl⟩
      have hi := (List.getElem?_eq_some_iff.mp hki).1
      have fl : ((unionK (shown (there xs)) (shown (there ys))).take (i + 1)).flatMap (apk (shown (there xs)) (shown (there ys))) = ((unionK (shown (there xs)) (shown (there ys))).take i).flatMap (apk (shown (there xs)) (shown (there ys))) ++ apk (shown (there xs)) (shown (there ys)) k := by rw [take_more hki, List.flatMap_append]; simp
      have sl := apl ((unionK (shown (there xs)) (shown (there ys))).take i)
      rw [List.length_take] at sl
      have k1 : D.eqOk (optF (lookS (shown (there xs)) k)) := eqk_optF fun q hq => (shown_ok g (lookS_mem hq).1).1
      have k2 : D.eqOk (optF (lookS (shown (there ys)) k)) := eqk_optF fun q hq => (shown_ok g2 (lookS_mem hq).1).1
      have f1 : ∀ M, DicOf M (facesD xs) (kvOf (fun p : Sh => p.2.key) faceD (shown (there xs))) := fun M => faces_dic M xs
      have f2 : ∀ M, DicOf M (facesD ys) (kvOf (fun p : Sh => p.2.key) faceD (shown (there ys))) := fun M => faces_dic M ys
      have n1 : ∀ M, Now M (optF (lookS (shown (there xs)) k)) (optF (lookS (shown (there xs)) k)) := fun M => .self _
      refine ⟨_, rfl, ?_⟩
      walk_at "rd"
      refine ⟨⟨_, f1 _⟩, kk k, rfl, _, f1 _, ⟨_, f2 _⟩, kk k, rfl, _, f2 _, ?_⟩
      rw [face_get, face_get]
      refine ⟨_, .self _, _, .self _, k1, k2, fun z => ?_, fun z => ?_⟩
      · refine ⟨⟨_, List.mem_cons_self ..⟩, ⟨_, f1 _⟩, kk k, rfl, _, f1 _, ⟨_, f2 _⟩, kk k, rfl, _, f2 _, _, [], _, rfl, by rw [sizeLine_eq]; omega, _, rfl, ?_⟩
        rw [fl, face_get, face_get]
        unfold apk
        rw [if_neg (by rw [z]; decide)]
        rfl
      · refine ⟨_, rfl, ?_⟩
        rw [fl]
        unfold apk
        rw [if_pos z, List.append_nil]
    · rintro Γ' M' ⟨v5, rfl, rfl⟩
      rw [List.take_length]
      walk_at "rd"
      exact Fin.lstAt (List.mem_cons_self ..) hp (List.sublist_cons_self _ _) h
end
end NF
namespace NF
open PySem L2
def refD (s : Str) : D := .tup [.str "refused", .str s]
theorem ix_l0 {r : Rc} {M : Mp} {Φ : KD} : aIx (ltup r) (.int 0) M Φ ↔ Φ (.str r.name) M := by unfold ltup; rw [ix_tup, atI_0]; simp
theorem ix_l1 {r : Rc} {M : Mp} {Φ : KD} : aIx (ltup r) (.int 1) M Φ ↔ Φ (Ky.d r.since) M := by unfold ltup; rw [ix_tup, atI_1]; simp
theorem ix_l2 {r : Rc} {M : Mp} {Φ : KD} : aIx (ltup r) (.int 2) M Φ ↔ Φ (Ky.d r.key) M := by unfold ltup; rw [ix_tup, atI_2]; simp
local macro_rules | `(tactic| walk_at "rd") => `(tactic| simp only [wDrop, wRet, wSet, wIfS, wDPut, wFld, wSetFld, wCall, wCB, wMake, wVar, wC, wOp, wTest, wChain, wAndV, wOrV, wNotV, wAnd, wOr, wNot, wIf, wTruth, wNil, wCons, wTup, wLst, wLstO, wDict, aInt, aIntC, ix_tup, ix_lst, ix_str, ix_scr, len_lst, len_tup, len_scr, len_str, add_int, add_str, add_tup, add_lst, sl_tup, sl_lst, tru_bl, tru_non, tru_int, tru_lst, tru_tup, tru_scr, ex_key, sl_dd, ix_dd0, ix_dd2, eqk_word, wd_new, wd_name, wd_worth, wd_drop, ix_n3, ix_n4, ix_m3, ix_m4, ix_w3, ix_w4, ix_d3, eqk_new, eqk_name, eqk_worth, eqk_drop, w_nn, w_wn, w_dn, w_nd, w_wd, w_wm, w_dm, w_dw, w_nw, w_ed, w_em, w_ew, ix_nm0, ix_nm1, now_table, eqb_dd, eqb_self, wSl, wNoPart, wPart, wSeq, wNext, wNever, wCont, wBreak, wNeg, wYes, wBM, aAppend, aStr, aIntB, wIter, wIterT, wIterS, wRng1, wRev, wLenSet, wDGet, wDGet2, wDIn, wKeys, wVals, aEq, aNe, aAll, aNotInK, lt_int, lt_key, eqb_nil, eqk_nil, ge_key, List.cons.injEq, D.op.injEq, V.ref.injEq, Option.isSome_some, Option.isSome_none, aInSign, Tg.put, putAll, gwipe,
  now_int, now_str, now_tup, now_lst, now_non, now_bl, now_opt, eqb_opt, eqb_so, ins_rcd, f_key, f_name, f_since, f_worth, f_gone, eqk_int, eqk_non, eqk_key, eqb_int, eqb_str, eqb_key, atI_0, atI_1, atI_2, atI_3, atI_4, atI_last, cut_2, List.take_succ_cons, List.take_zero, true_and, and_true, if_true,
  startD, List.map_cons, List.map_nil, List.length_cons, List.length_nil, List.cons_append, List.nil_append, List.replicate, List.getElem?_cons_zero, List.getElem?_cons_succ, List.set_cons_zero, List.set_cons_succ, Option.some.injEq, exists_eq_left, exists_eq_left', D.int.injEq, D.str.injEq, D.bl.injEq, D.tup.injEq, D.lst.injEq, exists_and_left, exists_and_right, Nat.reduceAdd, Nat.reduceSub, Int.cast_ofNat_Int, Bool.false_eq_true, false_imp_iff, true_imp_iff, reduceCtorEq, decide_eq_true_eq, decide_eq_false_iff_not, decide_true, decide_false, not_true_eq_false, not_false_eq_true, Bool.not_true, Bool.not_false, Bool.not_eq_true', Bool.not_eq_false', ne_eq, and_self, implies_true, ↓reduceIte, aIsN, D.isNon, xMeth, xMake, xIf, xCall, xSet, xDrop, xRet, xIfS, xSeq, xRaise, xOf, sOfX, xFld, wTry])
local macro_rules | `(tactic| walk_at "rdd") => `(tactic| simp only [wDrop, wRet, wSet, wIfS, wDPut, wFld, wSetFld, wCall, wCB, wMake, wVar, wC, wOp, wTest, wChain, wAndV, wOrV, wNotV, wAnd, wOr, wNot, wIf, wTruth, wNil, wCons, wTup, wLst, wLstO, wDict, aInt, aIntC, ix_tup, ix_lst, ix_str, ix_scr, len_lst, len_tup, len_scr, len_str, add_int, add_str, add_tup, add_lst, sl_tup, sl_lst, tru_bl, tru_non, tru_int, tru_lst, tru_tup, tru_scr, ex_key, Dd.d, Dd.key, Dd.word, Dd.tl, eqk_new, eqk_name, eqk_worth, eqk_drop, w_nn, w_wn, w_dn, w_nd, w_wd, w_wm, w_dm, w_dw, w_nw, w_ed, w_em, w_ew, ix_nm0, ix_nm1, now_table, eqb_dd, eqb_self, wSl, wNoPart, wPart, wSeq, wNext, wNever, wCont, wBreak, wNeg, wYes, wBM, aAppend, aStr, aIntB, wIter, wIterT, wIterS, wRng1, wRev, wLenSet, wDGet, wDGet2, wDIn, wKeys, wVals, aEq, aNe, aAll, aNotInK, lt_int, lt_key, eqb_nil, eqk_nil, ge_key, List.cons.injEq, D.op.injEq, V.ref.injEq, Option.isSome_some, Option.isSome_none, aInSign, Tg.put, putAll, gwipe,
  now_int, now_str, now_tup, now_lst, now_non, now_bl, now_opt, eqb_opt, eqb_so, ins_rcd, f_key, f_name, f_since, f_worth, f_gone, eqk_int, eqk_non, eqk_key, eqb_int, eqb_str, eqb_key, atI_0, atI_1, atI_2, atI_3, atI_4, atI_last, cut_2, List.take_succ_cons, List.take_zero, true_and, and_true, if_true,
  startD, List.map_cons, List.map_nil, List.length_cons, List.length_nil, List.cons_append, List.nil_append, List.replicate, List.getElem?_cons_zero, List.getElem?_cons_succ, List.set_cons_zero, List.set_cons_succ, Option.some.injEq, exists_eq_left, exists_eq_left', D.int.injEq, D.str.injEq, D.bl.injEq, D.tup.injEq, D.lst.injEq, exists_and_left, exists_and_right, Nat.reduceAdd, Nat.reduceSub, Int.cast_ofNat_Int, Bool.false_eq_true, false_imp_iff, true_imp_iff, reduceCtorEq, decide_eq_true_eq, decide_eq_false_iff_not, decide_true, decide_false, not_true_eq_false, not_false_eq_true, Bool.not_true, Bool.not_false, Bool.not_eq_true', Bool.not_eq_false', ne_eq, and_self, implies_true, ↓reduceIte, aIsN, D.isNon, xMeth, xMake, xIf, xCall, xSet, xDrop, xRet, xIfS, xSeq, xRaise, xOf, sOfX, xFld, wTry])
local macro_rules | `(tactic| walk_at "rq") => `(tactic| simp only [wDrop, wRet, wSet, wIfS, wDPut, wFld, wSetFld, wCall, wCB, wMake, wVar, wC, wOp, wTest, wChain, wAndV, wOrV, wNotV, wAnd, wOr, wNot, wIf, wTruth, wNil, wCons, wTup, wLst, wLstO, wDict, aInt, aIntC, ix_tup, ix_lst, ix_str, ix_scr, len_lst, len_tup, len_scr, len_str, add_int, add_str, add_tup, add_lst, sl_tup, sl_lst, tru_bl, tru_non, tru_int, tru_lst, tru_tup, tru_scr, ex_key, sl_dd, ix_dd0, ix_dd2, eqk_word, wd_new, wd_name, wd_worth, wd_drop, ix_n3, ix_n4, ix_m3, ix_m4, ix_w3, ix_w4, ix_d3, eqk_new, eqk_name, eqk_worth, eqk_drop, w_nn, w_wn, w_dn, w_nd, w_wd, w_wm, w_dm, w_dw, w_nw, w_ed, w_em, w_ew, ix_nm0, ix_nm1, now_table, eqb_dd, eqb_self, wSl, wNoPart, wPart, wNext, wNever, wCont, wBreak, wNeg, wYes, wBM, aAppend, aStr, aIntB, wIter, wIterT, wIterS, wRng1, wRev, wLenSet, wDGet, wDGet2, wDIn, wKeys, wVals, aEq, aNe, aAll, aNotInK, lt_int, lt_key, eqb_nil, eqk_nil, ge_key, List.cons.injEq, D.op.injEq, V.ref.injEq, Option.isSome_some, Option.isSome_none, aInSign, Tg.put, putAll, gwipe,
  now_int, now_str, now_tup, now_lst, now_non, now_bl, now_opt, eqb_opt, eqb_so, ins_rcd, f_key, f_name, f_since, f_worth, f_gone, eqk_int, eqk_non, eqk_key, eqb_int, eqb_str, eqb_key, atI_0, atI_1, atI_2, atI_3, atI_4, atI_last, cut_2, List.take_succ_cons, List.take_zero, true_and, and_true, if_true,
  startD, List.map_cons, List.map_nil, List.length_cons, List.length_nil, List.cons_append, List.nil_append, List.replicate, List.getElem?_cons_zero, List.getElem?_cons_succ, List.set_cons_zero, List.set_cons_succ, Option.some.injEq, exists_eq_left, exists_eq_left', D.int.injEq, D.str.injEq, D.bl.injEq, D.tup.injEq, D.lst.injEq, exists_and_left, exists_and_right, Nat.reduceAdd, Nat.reduceSub, Int.cast_ofNat_Int, Bool.false_eq_true, false_imp_iff, true_imp_iff, reduceCtorEq, decide_eq_true_eq, decide_eq_false_iff_not, decide_true, decide_false, not_true_eq_false, not_false_eq_true, Bool.not_true, Bool.not_false, Bool.not_eq_true', Bool.not_eq_false', ne_eq, and_self, implies_true, ↓reduceIte, aIsN, D.isNon, xMeth, xMake, xIf, xCall, xSet, xDrop, xRet, xIfS, xSeq, xRaise, xOf, sOfX, xFld, wTry])
theorem one_head {α : Type} {p : α → Bool} {x : α} : ∀ {l : List α}, x ∈ l → p x = true → (∀ y, y ∈ l → p y = true → y = x) → (l.filter p).head? = some x ∧ (l.filter p).getLast? = some x := by
  intro l hx px un
  have m : x ∈ l.filter p := List.mem_filter.mpr ⟨hx, px⟩
  have all : ∀ y, y ∈ l.filter p → y = x := fun y hy => un y (List.mem_filter.mp hy).1 (List.mem_filter.mp hy).2
  constructor
  · cases e : (l.filter p).head? with
    | none => rw [List.head?_eq_none_iff.mp e] at m; cases m
    | some y => rw [all y (List.mem_of_mem_head? e)]
  · cases e : (l.filter p).getLast? with
    | none => rw [List.getLast?_eq_none_iff.mp e] at m; cases m
    | some y => rw [all y (List.mem_of_getLast? e)]
theorem since_deed {xs : List Dd} {r : Rc} (hr : r ∈ there xs) : ∃ x, x ∈ xs ∧ x.key = r.since := by
  have h1 := (there_mem.mp hr).1
  unfold rows at h1
  obtain ⟨s, hs, rfl⟩ := List.mem_map.mp h1
  obtain ⟨x, hx, e⟩ := List.mem_filterMap.mp hs
  rcases since_of s (ordd xs) with z | ⟨y, hy, _, z⟩
  · exact ⟨x, mem_ordd.mp hx, by show x.key = (rowsAt (ordd xs) s).since; unfold rowsAt; rw [z]; exact ((made_key e).2.1).symm⟩
  · exact ⟨y, mem_ordd.mp hy, z.symm⟩
def lawW (k : Ky) (x : Dd) : Bool := decide (x.key = k) || (match x with | .worth _ a _ => decide (a = k) | _ => false)
theorem lawW_eq {xs : List Dd} (one : ∀ x y, x ∈ xs → y ∈ xs → x.key = y.key → x = y) {k : Ky} {n : Dd} (hn : n ∈ xs) (nw : isNew n = true) (kn : n.key = k) : ∀ x, x ∈ xs → lawW k x = tellsW k x := fun x hx => by
  by_cases c : x.key = k
  · have : x = n := one x n hx hn (c.trans kn.symm)
    subst this
    cases x with
    | new j _ _ => unfold lawW tellsW Dd.key; simp only [Bool.or_false]
    | name _ _ _ => cases nw
    | worth _ _ _ => cases nw
    | drop _ _ => cases nw
  · unfold lawW
    rw [decide_eq_false c, Bool.false_or]
    cases x with
    | new j _ _ => simpa [tellsW, Dd.key] using c
    | name _ _ _ => rfl
    | worth _ _ _ => rfl
    | drop _ _ => rfl
section
variable {P : Program} {w : World} {K : PySem.W.Frag} {mg : Str → Option Value} {base : Heap} {A : Ad} (T : Tx K w mg A)
include T
def RefW (A : Ad) (C : Addr) (s : Str) : Prop := (C = A.NoRow ∧ s = "row")
def sp_law_refusal (A : Ad) : ASp := fun ds M Φ => ∃ a C s, ds = [.op (.ref a)] ∧ (a, MO.exc C) ∈ M ∧ RefW A C s ∧ Φ (refD s) M
theorem ok_law_refusal  : OkD P w K mg base A.law_refusal A.d_law_refusal ["caught"] 1 (sp_law_refusal A) := by
  refine def_ok T.f_law_refusal.F sc_law_refusal ?len (fun cdv Ar outer s H E hr =>
      (db_cons (ds_if (dt_cmp o_isN (d_var 0) d_non) (db_one (ds_ret (d_tup (da_cons d_str da_nil)))) db_nil)
      (db_cons (ds_set 1 sc_law_refusal.nd (.inl rfl) (d_lst (da_cons (d_callB c_isEk T.b_isinstance (by decide +kernel) (da_cons (d_var 0) (da_cons (d_globR rfl T.xc_BadDeed.g) da_nil))) (da_cons (d_callB c_isEk T.b_isinstance (by decide +kernel) (da_cons (d_var 0) (da_cons (d_globR rfl T.xc_NoRow.g) da_nil))) (da_cons (d_callB c_isEk T.b_isinstance (by decide +kernel) (da_cons (d_var 0) (da_cons (d_globR rfl T.xc_Taken.g) da_nil))) da_nil)))))
      (db_cons (ds_set 1 sc_law_refusal.nd (.inl rfl) (d_op o_addO (d_var 1) (d_lst (da_cons (d_callB c_isEk T.b_isinstance (by decide +kernel) (da_cons (d_var 0) (da_cons (d_globR rfl T.xc_BadName.g) da_nil))) (da_cons (d_callB c_isEk T.b_isinstance (by decide +kernel) (da_cons (d_var 0) (da_cons (d_globR rfl T.xc_BadNumber.g) da_nil))) (da_cons (d_callB c_isEk T.b_isinstance (by decide +kernel) (da_cons (d_var 0) (da_cons (d_globR rfl T.xc_Nothing.g) da_nil))) da_nil))))))
      (db_cons (ds_expr (d_bm PySem.F.plainAttrs_list PySem.F.slot_list_append PySem.F.type_list_append m_append (d_var 1) (da_cons (d_callB c_isEk T.b_isinstance (by decide +kernel) (da_cons (d_var 0) (da_cons (d_globR rfl T.xc_BadText.g) da_nil))) da_nil)))
      (db_cons (ds_if (PW.pt (dw_or (dt_cmp (o_ne hr.units) (d_bm PySem.F.plainAttrs_list PySem.F.slot_list_count PySem.F.type_list_count m_count (d_var 1) (da_cons d_bl da_nil)) d_int) (dw_or1 (dt_not (dt_truth (d_callB c_isEk T.b_isinstance (by decide +kernel) (da_cons (d_var 0) (da_cons (d_ty (T := "ValueError") T.b_ValueError (by decide +kernel)) da_nil)))))))) (db_one (ds_ret (d_tup (da_cons d_str da_nil)))) db_nil)
      (db_one (ds_ret (d_tup (da_cons d_str (da_cons (d_ix (d_lst (da_cons d_str (da_cons d_str (da_cons d_str (da_cons d_str (da_cons d_str (da_cons d_str (da_cons d_str da_nil)))))))) (d_bm PySem.F.plainAttrs_list PySem.F.slot_list_index PySem.F.type_list_index (m_index (units65 hr)) (d_var 1) (da_cons d_bl da_nil))) da_nil))))))))))) ?read
  case len => rintro ds M Φ ⟨a, C, s, rfl, _⟩; rfl
  case read =>
    rintro ds M Φ ⟨a, C, s, rfl, m, rf, h⟩
    have sz : ∀ n : Nat, n ≤ 100 → n ≤ sizeLine := fun n hn => by rw [sizeLine_eq]; omega
    walk_at "rd"
    rcases rf with ⟨rfl, rfl⟩
    · refine isE m T.ec_NoRow T.ki_NoRow_BadDeed (isE m T.ec_NoRow T.ki_NoRow_NoRow (isE m T.ec_NoRow T.ki_NoRow_Taken ⟨sz _ (by decide), ?_⟩))
      refine isE m T.ec_NoRow T.ki_NoRow_BadName (isE m T.ec_NoRow T.ki_NoRow_BadNumber (isE m T.ec_NoRow T.ki_NoRow_Nothing ⟨sz _ (by decide), ?_⟩))
      refine ⟨_, _, .self _, .self _, sz _ (by decide), fun q hq => ?_⟩
      have m2 : ∀ l, (a, MO.exc A.NoRow) ∈ (q, MO.lst l) :: M := fun l => List.mem_cons_of_mem _ m
      walk_at "rd"
      refine ⟨⟨_, List.mem_cons_self ..⟩, isE (m2 _) T.ec_NoRow T.ki_NoRow_BadText ⟨_, [], _, rfl, by rw [sizeLine_eq]; simp, ?_⟩⟩
      refine ⟨⟨_, List.mem_cons_self ..⟩, .inr ⟨[false, true, false, false, false, false, false], true, .lst (List.mem_cons_self ..), rfl, _, .self _, eqk_int, ?_⟩⟩
      have e : D.eqb (.int ((List.count true [false, true, false, false, false, false, false] : Nat) : Int)) (.int 1) = true := by rw [eqb_int]; decide
      rw [e]
      refine ⟨fun z => (by cases z), fun _ => isET (m2 _) T.ec_NoRow T.kv_NoRow ⟨true, rfl, fun z => (by cases z), fun _ => ⟨sz _ (by decide), ⟨_, List.mem_cons_self ..⟩, .inl ⟨[false, true, false, false, false, false, false], true, 1, .lst (List.mem_cons_self ..), by decide, rfl, rfl, by decide, ?_⟩⟩⟩⟩
      exact ix_lst.mpr ⟨.str "row", by rw [atI_nat]; rfl, sz _ (by decide), Fin.lose (List.sublist_cons_self _ _) h⟩
def sp_why (A : Ad) : ASp := fun ds M Φ => ∃ (d : D) (xs : List Dd) (k : Ky) (r : Rc), ds = [d, Ky.d k] ∧ Now M d (.lst (xs.map Dd.d)) ∧ Good xs ∧ (A.Pt, MO.tab lamq) ∈ M ∧ rowAt xs k = some r ∧ Φ (whyD xs r) M
theorem ok_why (GX_why : OkX P w K mg base A.why A.d_why ["deeds", "key"] 6 (spx_why A)) : OkD P w K mg base A.why A.d_why ["deeds", "key"] 6 (sp_why A) := by
  refine OkX.calm GX_why fun ds M Φ => ?_
  rintro ⟨d, xs, k, r, rfl, nw, g, ht, er, h⟩
  exact ⟨d, xs, k, rfl, nw, g, ht, .inl ⟨r, er, h⟩⟩
def spx_law_one (A : Ad) : ASpX := fun ds M Φ Ξ => ∃ (q d : D) (xs : List Dd) (k : Ky), ds = [q, .lst [d, Ky.d k]] ∧ Now M d (.lst (xs.map Dd.d)) ∧ Good xs ∧ (A.Pt, MO.tab lamq) ∈ M ∧ rowAt xs k = none ∧ Ξ A.NoRow M
theorem okx_law_one (GX_why : OkX P w K mg base A.why A.d_why ["deeds", "key"] 6 (spx_why A)) : OkX P w K mg base A.law_one A.d_law_one ["kind", "given"] 7 (spx_law_one A) := by
  refine def_okX T.f_law_one.F sc_law_one ?len (fun cdv Ar outer s H E hr =>
      (bx_one (sx_ret (x_call (takes_of rfl rfl rfl rfl) T.f_why GX_why (hr.mono (by decide)) (da_cons (d_ix (d_var 1) d_int) (da_cons (d_ix (d_var 1) d_int) da_nil)))))) ?read
  case len => rintro ds M Φ Ξ ⟨q, d, xs, k, rfl, _⟩; rfl
  case read =>
    rintro ds M Φ Ξ ⟨q, d, xs, k, rfl, nw, g, ht, er, h⟩
    walk_at "rd"
    exact ⟨d, xs, k, rfl, nw, g, ht, .inr ⟨er, FinX.pure h⟩⟩
def sp_law_told (A : Ad) : ASp := fun ds M Φ => ∃ (q d : D) (xs : List Dd) (k : Ky), ds = [q, .lst [d, Ky.d k]] ∧ Now M d (.lst (xs.map Dd.d)) ∧ Good xs ∧ (A.Pt, MO.tab lamq) ∈ M ∧ rowAt xs k = none ∧ Φ (refD "row") M
theorem ok_law_told (GX_law_one : OkX P w K mg base A.law_one A.d_law_one ["kind", "given"] 7 (spx_law_one A)) (G_law_refusal : OkD P w K mg base A.law_refusal A.d_law_refusal ["caught"] 1 (sp_law_refusal A)) : OkD P w K mg base A.law_told A.d_law_told ["kind", "some"] 8 (sp_law_told A) := by
  refine def_ok T.f_law_told.F sc_law_told ?len (fun cdv Ar outer s H E hr =>
      (db_cons (ds_set 2 sc_law_told.nd (.inl rfl) d_non)
      (db_cons (ds_set 3 sc_law_told.nd (.inl rfl) d_non)
      (db_cons (ds_try 4 2 sc_law_told.nd T.xc_FallError.g (fun W pn xe tk => (bx_one (sx_set 3 sc_law_told.nd (.inl rfl) (x_call tk T.f_law_one GX_law_one (hr.mono (by decide)) (da_cons (d_var 0) (da_cons (d_var 1) da_nil)))))))
      (db_one (ds_ret (d_if (dt_cmp o_isN (d_var 2) d_non) (d_tup (da_cons d_str (da_cons (d_var 3) da_nil))) (d_calld T.f_law_refusal G_law_refusal (hr.mono (by decide)) (da_cons (d_var 2) da_nil))))))))) ?read
  case len => rintro ds M Φ ⟨q, d, xs, k, rfl, _⟩; rfl
  case read =>
    rintro ds M Φ ⟨q, d, xs, k, rfl, nw, g, ht, er, h⟩
    walk_at "rd"
    exact ⟨q, d, xs, k, rfl, nw, g, ht, er, T.xm_NoRow, fun b hb => ⟨b, _, _, rfl, List.mem_cons_self .., ⟨rfl, rfl⟩, Fin.lose (List.sublist_cons_self _ _) h⟩⟩
end
end NF
namespace NF
open PySem L2
local macro_rules | `(tactic| walk_at "rd") => `(tactic| simp only [wDrop, wRet, wSet, wIfS, wDPut, wFld, wSetFld, wCall, wCB, wMake, wVar, wC, wOp, wTest, wChain, wAndV, wOrV, wNotV, wAnd, wOr, wNot, wIf, wTruth, wNil, wCons, wTup, wLst, wLstO, wDict, aInt, aIntC, ix_tup, ix_lst, ix_str, ix_scr, len_lst, len_tup, len_scr, len_str, add_int, add_str, add_tup, add_lst, sl_tup, sl_lst, tru_bl, tru_non, tru_int, tru_lst, tru_tup, tru_scr, ex_key, sl_dd, ix_dd0, ix_dd2, eqk_word, wd_new, wd_name, wd_worth, wd_drop, ix_n3, ix_n4, ix_m3, ix_m4, ix_w3, ix_w4, ix_d3, eqk_new, eqk_name, eqk_worth, eqk_drop, w_nn, w_wn, w_dn, w_nd, w_wd, w_wm, w_dm, w_dw, w_nw, w_ed, w_em, w_ew, ix_nm0, ix_nm1, now_table, eqb_dd, eqb_self, wSl, wNoPart, wPart, wSeq, wNext, wNever, wCont, wBreak, wNeg, wYes, wBM, aAppend, aStr, aIntB, wIter, wIterT, wIterS, wRng1, wRev, wLenSet, wDGet, wDGet2, wDIn, wKeys, wVals, aEq, aNe, aAll, aNotInK, lt_int, lt_key, eqb_nil, eqk_nil, ge_key, List.cons.injEq, D.op.injEq, V.ref.injEq, Option.isSome_some, Option.isSome_none, aInSign, Tg.put, putAll, gwipe,
  now_int, now_str, now_tup, now_lst, now_non, now_bl, now_opt, eqb_opt, eqb_so, ins_rcd, f_key, f_name, f_since, f_worth, f_gone, eqk_int, eqk_non, eqk_key, eqb_int, eqb_str, eqb_key, atI_0, atI_1, atI_2, atI_3, atI_4, atI_last, cut_2, List.take_succ_cons, List.take_zero, true_and, and_true, if_true,
  startD, List.map_cons, List.map_nil, List.length_cons, List.length_nil, List.cons_append, List.nil_append, List.replicate, List.getElem?_cons_zero, List.getElem?_cons_succ, List.set_cons_zero, List.set_cons_succ, Option.some.injEq, exists_eq_left, exists_eq_left', D.int.injEq, D.str.injEq, D.bl.injEq, D.tup.injEq, D.lst.injEq, exists_and_left, exists_and_right, Nat.reduceAdd, Nat.reduceSub, Int.cast_ofNat_Int, Bool.false_eq_true, false_imp_iff, true_imp_iff, reduceCtorEq, decide_eq_true_eq, decide_eq_false_iff_not, decide_true, decide_false, not_true_eq_false, not_false_eq_true, Bool.not_true, Bool.not_false, Bool.not_eq_true', Bool.not_eq_false', ne_eq, and_self, implies_true, ↓reduceIte, aIsN, D.isNon, xMeth, xMake, xIf, xCall, xSet, xDrop, xRet, xIfS, xSeq, xRaise, xOf, sOfX, xFld, wTry, sz_0, sz_1, sz_2, sz_3, sz_4, wAsg, ix_l0, ix_l1, ix_l2, ix_m3, ix_w3, ix_d3, ix_n3])
local macro_rules | `(tactic| walk_at "rdd") => `(tactic| simp only [wDrop, wRet, wSet, wIfS, wDPut, wFld, wSetFld, wCall, wCB, wMake, wVar, wC, wOp, wTest, wChain, wAndV, wOrV, wNotV, wAnd, wOr, wNot, wIf, wTruth, wNil, wCons, wTup, wLst, wLstO, wDict, aInt, aIntC, ix_tup, ix_lst, ix_str, ix_scr, len_lst, len_tup, len_scr, len_str, add_int, add_str, add_tup, add_lst, sl_tup, sl_lst, tru_bl, tru_non, tru_int, tru_lst, tru_tup, tru_scr, ex_key, Dd.d, Dd.key, Dd.word, Dd.tl, eqk_new, eqk_name, eqk_worth, eqk_drop, w_nn, w_wn, w_dn, w_nd, w_wd, w_wm, w_dm, w_dw, w_nw, w_ed, w_em, w_ew, ix_nm0, ix_nm1, now_table, eqb_dd, eqb_self, wSl, wNoPart, wPart, wSeq, wNext, wNever, wCont, wBreak, wNeg, wYes, wBM, aAppend, aStr, aIntB, wIter, wIterT, wIterS, wRng1, wRev, wLenSet, wDGet, wDGet2, wDIn, wKeys, wVals, aEq, aNe, aAll, aNotInK, lt_int, lt_key, eqb_nil, eqk_nil, ge_key, List.cons.injEq, D.op.injEq, V.ref.injEq, Option.isSome_some, Option.isSome_none, aInSign, Tg.put, putAll, gwipe,
  now_int, now_str, now_tup, now_lst, now_non, now_bl, now_opt, eqb_opt, eqb_so, ins_rcd, f_key, f_name, f_since, f_worth, f_gone, eqk_int, eqk_non, eqk_key, eqb_int, eqb_str, eqb_key, atI_0, atI_1, atI_2, atI_3, atI_4, atI_last, cut_2, List.take_succ_cons, List.take_zero, true_and, and_true, if_true,
  startD, List.map_cons, List.map_nil, List.length_cons, List.length_nil, List.cons_append, List.nil_append, List.replicate, List.getElem?_cons_zero, List.getElem?_cons_succ, List.set_cons_zero, List.set_cons_succ, Option.some.injEq, exists_eq_left, exists_eq_left', D.int.injEq, D.str.injEq, D.bl.injEq, D.tup.injEq, D.lst.injEq, exists_and_left, exists_and_right, Nat.reduceAdd, Nat.reduceSub, Int.cast_ofNat_Int, Bool.false_eq_true, false_imp_iff, true_imp_iff, reduceCtorEq, decide_eq_true_eq, decide_eq_false_iff_not, decide_true, decide_false, not_true_eq_false, not_false_eq_true, Bool.not_true, Bool.not_false, Bool.not_eq_true', Bool.not_eq_false', ne_eq, and_self, implies_true, ↓reduceIte, aIsN, D.isNon, xMeth, xMake, xIf, xCall, xSet, xDrop, xRet, xIfS, xSeq, xRaise, xOf, sOfX, xFld, wTry, sz_0, sz_1, sz_2, sz_3, sz_4, wAsg, ix_l0, ix_l1, ix_l2, ix_m3, ix_w3, ix_d3, ix_n3])
local macro_rules | `(tactic| walk_at "rq") => `(tactic| simp only [wDrop, wRet, wSet, wIfS, wDPut, wFld, wSetFld, wCall, wCB, wMake, wVar, wC, wOp, wTest, wChain, wAndV, wOrV, wNotV, wAnd, wOr, wNot, wIf, wTruth, wNil, wCons, wTup, wLst, wLstO, wDict, aInt, aIntC, ix_tup, ix_lst, ix_str, ix_scr, len_lst, len_tup, len_scr, len_str, add_int, add_str, add_tup, add_lst, sl_tup, sl_lst, tru_bl, tru_non, tru_int, tru_lst, tru_tup, tru_scr, ex_key, sl_dd, ix_dd0, ix_dd2, eqk_word, wd_new, wd_name, wd_worth, wd_drop, ix_n3, ix_n4, ix_m3, ix_m4, ix_w3, ix_w4, ix_d3, eqk_new, eqk_name, eqk_worth, eqk_drop, w_nn, w_wn, w_dn, w_nd, w_wd, w_wm, w_dm, w_dw, w_nw, w_ed, w_em, w_ew, ix_nm0, ix_nm1, now_table, eqb_dd, eqb_self, wSl, wNoPart, wPart, wNext, wNever, wCont, wBreak, wNeg, wYes, wBM, aAppend, aStr, aIntB, wIter, wIterT, wIterS, wRng1, wRev, wLenSet, wDGet, wDGet2, wDIn, wKeys, wVals, aEq, aNe, aAll, aNotInK, lt_int, lt_key, eqb_nil, eqk_nil, ge_key, List.cons.injEq, D.op.injEq, V.ref.injEq, Option.isSome_some, Option.isSome_none, aInSign, Tg.put, putAll, gwipe,
  now_int, now_str, now_tup, now_lst, now_non, now_bl, now_opt, eqb_opt, eqb_so, ins_rcd, f_key, f_name, f_since, f_worth, f_gone, eqk_int, eqk_non, eqk_key, eqb_int, eqb_str, eqb_key, atI_0, atI_1, atI_2, atI_3, atI_4, atI_last, cut_2, List.take_succ_cons, List.take_zero, true_and, and_true, if_true,
  startD, List.map_cons, List.map_nil, List.length_cons, List.length_nil, List.cons_append, List.nil_append, List.replicate, List.getElem?_cons_zero, List.getElem?_cons_succ, List.set_cons_zero, List.set_cons_succ, Option.some.injEq, exists_eq_left, exists_eq_left', D.int.injEq, D.str.injEq, D.bl.injEq, D.tup.injEq, D.lst.injEq, exists_and_left, exists_and_right, Nat.reduceAdd, Nat.reduceSub, Int.cast_ofNat_Int, Bool.false_eq_true, false_imp_iff, true_imp_iff, reduceCtorEq, decide_eq_true_eq, decide_eq_false_iff_not, decide_true, decide_false, not_true_eq_false, not_false_eq_true, Bool.not_true, Bool.not_false, Bool.not_eq_true', Bool.not_eq_false', ne_eq, and_self, implies_true, ↓reduceIte, aIsN, D.isNon, xMeth, xMake, xIf, xCall, xSet, xDrop, xRet, xIfS, xSeq, xRaise, xOf, sOfX, xFld, wTry, sz_0, sz_1, sz_2, sz_3, sz_4, wAsg, ix_l0, ix_l1, ix_l2, ix_m3, ix_w3, ix_d3, ix_n3])
section
variable {P : Program} {w : World} {K : PySem.W.Frag} {mg : Str → Option Value} {base : Heap} {A : Ad} (T : Tx K w mg A)
include T
def sp_law_faces : ASp := fun ds M Φ => ∃ (d : D) (xs : List Dd), ds = [d] ∧ Now M d (.lst (xs.map Dd.d)) ∧ Deeds xs ∧ xs.length < 64 ∧ Φ (facesD xs) M
theorem ok_law_faces (G_law_shown : OkD P w K mg base A.law_shown A.d_law_shown ["deeds"] 2 (sp_law_shown)) : OkD P w K mg base A.law_faces A.d_law_faces ["deeds"] 3 (sp_law_faces) := by
  refine def_ok T.f_law_faces.F sc_law_faces ?len (fun cdv Ar outer s H E hr =>
      (db_one (ds_ret (d_callTy (c_dict rfl (lt2 (units65 hr))) T.b_dict (by decide +kernel) (da_cons (d_lc [("had", 1), ("name", 2), ("key", 3), ("worth", 4)] rfl sc_law_faces.nd (di_list (d_calld T.f_law_shown G_law_shown (hr.mono (by decide)) (da_cons (d_var 0) da_nil))) (blkOk_by (N := N_law_faces) (sc := defScope s_law_faces) (by decide +kernel)) (fun _ _ _ _ _ => (dg_many [1, 2, 3, 4] rfl (pgs_cons (pg_name (i := 1) sc_law_faces.nd rfl (by first | exact .inl rfl | exact .inr rfl)) (pgs_cons (pg_name (i := 2) sc_law_faces.nd rfl (by first | exact .inl rfl | exact .inr rfl)) (pgs_cons (pg_name (i := 3) sc_law_faces.nd rfl (by first | exact .inl rfl | exact .inr rfl)) (pgs_cons (pg_name (i := 4) sc_law_faces.nd rfl (by first | exact .inl rfl | exact .inr rfl)) pgs_nil)))))) (fun _ _ _ _ _ => dts_nil) (fun _ _ _ _ _ => (d_tup (da_cons (d_var 3) (da_cons (d_tup (da_cons (d_var 1) (da_cons (d_var 4) da_nil))) da_nil))))) da_nil))))) ?read
  case len => rintro ds M Φ ⟨d, xs, rfl, _⟩; rfl
  case read =>
    rintro ds M Φ ⟨d, xs, rfl, nw, dd, l64, h⟩
    have sz : ∀ n : Nat, n ≤ 200 → n ≤ sizeLine := fun n hn => by rw [sizeLine_eq]; omega
    have g := dd.good l64
    have lt : (shown (there xs)).length < 64 := by rw [shown_length]; exact there_len g
    walk_at "rd"
    refine lc_all (shown (there xs)) shD (fun p => .tup [Ky.d p.2.key, faceD p]) (sz _ (by omega)) (fun Ψ h => ?_) (fun p hp => ⟨_, rfl, fun Φ' h' => ?_⟩) ?_
    · walk_at "rd"
      refine ⟨d, xs, rfl, nw, dd, l64, ?_⟩
      walk_at "rd"
      exact h _ trivial
    · walk_at "rd"
      exact h'
    refine ⟨_, facesL xs, rfl, ?_, faces_nd g, Fin.pure h⟩
    have e : ((facesL xs).map fun p => D.tup [keyT p.1, p.2]) = (shown (there xs)).map fun p => D.tup [Ky.d p.2.key, faceD p] := by unfold facesL kvOf; rw [List.map_map]; rfl
    rw [e]
    exact .self _
def sp_law_why : ASp := fun ds M Φ => ∃ (d : D) (xs : List Dd) (r : Rc), ds = [d, .lst ((there xs).map ltup), ltup r] ∧ Now M d (.lst (xs.map Dd.d)) ∧ Deeds xs ∧ xs.length < 64 ∧ r ∈ there xs ∧ Φ (whyD xs r) M
theorem ok_law_why  : OkD P w K mg base A.law_why A.d_law_why ["deeds", "rows", "row"] 1 (sp_law_why) := by
  refine def_ok T.f_law_why.F sc_law_why ?len (fun cdv Ar outer s H E hr =>
      (db_cons (ds_asg (d_var 2) (dg_many [3, 4, 5, 6] rfl (pgs_cons (pg_name (i := 3) sc_law_why.nd rfl (.inr rfl)) (pgs_cons (pg_name (i := 4) sc_law_why.nd rfl (.inr rfl)) (pgs_cons (pg_name (i := 5) sc_law_why.nd rfl (.inr rfl)) (pgs_cons (pg_name (i := 6) sc_law_why.nd rfl (.inl rfl)) pgs_nil))))))
      (db_cons (ds_set 7 sc_law_why.nd (.inl rfl) (d_ix (d_lc [("deed", 10)] rfl sc_law_why.nd (di_list (d_var 0)) (blkOk_by (N := N_law_why) (sc := defScope s_law_why) (by decide +kernel)) (fun _ _ _ _ _ => (dg_one 10 sc_law_why.nd (by first | exact .inl rfl | exact .inr rfl))) (fun _ _ _ _ _ => (dts_one (dt_cmp (o_eq hr.units) (d_sl (d_var 10) do_none (do_some d_int)) (d_var 4)))) (fun _ _ _ _ _ => (d_var 10))) d_int))
      (db_cons (ds_set 8 sc_law_why.nd (.inl rfl) (d_callB (c_sorted hr) T.b_sorted (by decide +kernel) (da_cons (d_lc [("deed", 10)] rfl sc_law_why.nd (di_list (d_var 0)) (blkOk_by (N := N_law_why) (sc := defScope s_law_why) (by decide +kernel)) (fun _ _ _ _ _ => (dg_one 10 sc_law_why.nd (by first | exact .inl rfl | exact .inr rfl))) (fun _ _ _ _ _ => (dts_one (PW.pt (dw_or (dt_cmp (o_eq hr.units) (d_sl (d_var 10) do_none (do_some d_int)) (d_var 5)) (dw_or1 (PW.pt (dw_and (dt_cmp (o_eq hr.units) (d_ix (d_var 10) d_int) d_str) (dw_and1 (dt_cmp (o_eq hr.units) (d_ix (d_var 10) d_int) (d_var 5)))))))))) (fun _ _ _ _ _ => (d_var 10))) da_nil)))
      (db_cons (ds_setLc 9 [("one", 11)] rfl sc_law_why.nd rfl (sw_true rfl rfl rfl (by decide +kernel)) (di_list (d_var 1)) (blkOk_by (N := N_law_why) (sc := defScope s_law_why) (by decide +kernel)) (fun _ _ _ _ _ => (dg_one 11 sc_law_why.nd (by first | exact .inl rfl | exact .inr rfl))) (fun _ _ _ _ _ => (dts_one (PW.pt (dw_and (dt_cmp (o_eq hr.units) (d_ix (d_var 11) d_int) (d_var 3)) (dw_and1 (dt_cmp (o_lt hr.units0) (d_ix (d_var 11) d_int) (d_var 4))))))) (fun _ _ _ _ _ => (d_ix (d_var 11) d_int)))
      (db_one (ds_ret (d_tup (da_cons (d_var 7) (da_cons (d_ix (d_var 8) (d_neg d_int)) (da_cons (d_var 9) da_nil))))))))))) ?read
  case len => rintro ds M Φ ⟨d, xs, r, rfl, _⟩; rfl
  case read =>
    rintro ds M Φ ⟨d, xs, r, rfl, nw, dd, l64, hr, h⟩
    have sz : ∀ n : Nat, n ≤ 200 → n ≤ sizeLine := fun n hn => by rw [sizeLine_eq]; omega
    have g := dd.good l64
    have lth := there_len g
    have snr := eqk_str (nameOk_str (there_ok g hr).2.1)
    walk_at "rd"
    refine ⟨_, rfl, ?_⟩
    walk_at "rd"
    obtain ⟨sx, hsx, ksx⟩ := since_deed hr
    obtain ⟨nx, hnx, nnx, knx⟩ := row_new_deed hr
    have s1 := one_head (p := fun x : Dd => decide (x.key = r.since)) hsx (by simpa using ksx) fun y hy e => dd.one y sx hy hsx ((of_decide_eq_true e).trans ksx.symm)
    have s2 := one_head (l := ordd xs) (p := fun x : Dd => decide (x.key = r.since)) (mem_ordd.mpr hsx) (by simpa using ksx) fun y hy e => dd.one y sx (mem_ordd.mp hy) hsx ((of_decide_eq_true e).trans ksx.symm)
    refine lc_pure xs Dd.d (fun x => decide (x.key = r.since)) Dd.d (sz _ (by omega)) (fun Ψ h => ?_) (fun x hx => ⟨_, rfl, fun Ψ h' => ?_, fun _ Φ' h' => ?_⟩) ?_
    · walk_at "rd"
      exact ⟨_, nw, h _ nw⟩
    · walk_at "rd"
      exact h'
    · walk_at "rd"
      exact h'
    refine ix_lst.mpr ⟨sx.d, by rw [atI_0, List.getElem?_map, ← List.head?_eq_getElem?, s1.1]; rfl, ?_⟩
    refine lc_pure xs Dd.d (lawW r.key) Dd.d (sz _ (by omega)) (fun Ψ h => ?_) (fun x hx => ⟨_, rfl, fun Ψ h' => ?_, fun _ Φ' h' => ?_⟩) ?_
    · walk_at "rd"
      exact ⟨_, nw, h _ nw⟩
    · cases x with
      | new j n v =>
        walk_at "rd"
        refine ⟨fun c => ?_, fun c => ?_⟩
        · rw [show lawW r.key (Dd.new j n v) = true from by unfold lawW; rw [decide_eq_true c]; rfl] at h'
          exact h'
        · rw [show lawW r.key (Dd.new j n v) = false from by unfold lawW; rw [decide_eq_false c]; rfl] at h'
          exact h'
      | name j a n =>
        walk_at "rd"
        refine ⟨fun c => ?_, fun c => ?_⟩
        · rw [show lawW r.key (Dd.name j a n) = true from by unfold lawW; rw [decide_eq_true c]; rfl] at h'
          exact h'
        · rw [show lawW r.key (Dd.name j a n) = false from by unfold lawW; rw [decide_eq_false c]; rfl] at h'
          exact h'
      | worth j a n =>
        walk_at "rd"
        refine ⟨fun c => ?_, fun c => ?_⟩
        · rw [show lawW r.key (Dd.worth j a n) = true from by unfold lawW; rw [decide_eq_true c]; rfl] at h'
          exact h'
        · rw [show lawW r.key (Dd.worth j a n) = decide (a = r.key) from by unfold lawW; rw [decide_eq_false c]; rfl] at h'
          exact h'
      | drop j a =>
        walk_at "rd"
        refine ⟨fun c => ?_, fun c => ?_⟩
        · rw [show lawW r.key (Dd.drop j a) = true from by unfold lawW; rw [decide_eq_true c]; rfl] at h'
          exact h'
        · rw [show lawW r.key (Dd.drop j a) = false from by unfold lawW; rw [decide_eq_false c]; rfl] at h'
          exact h'
    · walk_at "rd"
      exact h'
    have df : Deeds (xs.filter (lawW r.key)) := dd.sub List.filter_sublist
    have gf : Good (xs.filter (lawW r.key)) := df.good (Nat.lt_of_le_of_lt (List.length_filter_le _ _) l64)
    have ew : ordd (xs.filter (lawW r.key)) = (ordd xs).filter (tellsW r.key) := by
      rw [ordd_filter g]
      exact List.filter_congr fun x hx => lawW_eq dd.one hnx nnx knx x (mem_ordd.mp hx)
    refine ⟨_, _, rfl, .self _, sortOk_dd gf, ?_⟩
    rw [sorted_all df, ew]
    obtain ⟨xw, exw⟩ := worth_some hr
    refine lc_pure (there xs) ltup (fun q => decide (q.name = r.name) && HT.lexLt [q.since.1, q.since.2] [r.since.1, r.since.2]) (fun q => Ky.d q.key) (sz _ (by omega)) (fun Ψ h => ?_) (fun q hq => ⟨_, rfl, fun Ψ h' => ?_, fun _ Φ' h' => ?_⟩) ?_
    · walk_at "rd"
      exact h _ trivial
    · walk_at "rd"
      refine ⟨eqk_str (nameOk_str (there_ok g hq).2.1), snr, fun y => ?_, fun y => ?_⟩
      · rw [decide_eq_true y] at h'
        exact h'
      · rw [decide_eq_false y] at h'
        exact h'
    · walk_at "rd"
      exact h'
    refine ix_lst.mpr ⟨xw.d, ?_, ?_⟩
    · rw [atI_last, List.getLast?_map]
      unfold worthX at exw
      rw [exw]
      rfl
    · unfold whyD sinceX at h
      rw [exw, s2.2] at h
      exact Fin.pure h
end
end NF
namespace NF
open PySem L2
local macro_rules | `(tactic| walk_at "rd") => `(tactic| simp only [wDrop, wRet, wSet, wIfS, wDPut, wFld, wSetFld, wCall, wCB, wMake, wVar, wC, wOp, wTest, wChain, wAndV, wOrV, wNotV, wAnd, wOr, wNot, wIf, wTruth, wNil, wCons, wTup, wLst, wLstO, wDict, aInt, aIntC, ix_tup, ix_lst, ix_str, ix_scr, len_lst, len_tup, len_scr, len_str, add_int, add_str, add_tup, add_lst, sl_tup, sl_lst, tru_bl, tru_non, tru_int, tru_lst, tru_tup, tru_scr, ex_key, sl_dd, ix_dd0, ix_dd2, eqk_word, wd_new, wd_name, wd_worth, wd_drop, ix_n3, ix_n4, ix_m3, ix_m4, ix_w3, ix_w4, ix_d3, eqk_new, eqk_name, eqk_worth, eqk_drop, w_nn, w_wn, w_dn, w_nd, w_wd, w_wm, w_dm, w_dw, w_nw, w_ed, w_em, w_ew, ix_nm0, ix_nm1, now_table, eqb_dd, eqb_self, wSl, wNoPart, wPart, wSeq, wNext, wNever, wCont, wBreak, wNeg, wYes, wBM, aAppend, aStr, aIntB, wIter, wIterT, wIterS, wRng1, wRev, wLenSet, wDGet, wDGet2, wDIn, wKeys, wVals, aEq, aNe, aAll, aNotInK, lt_int, lt_key, eqb_nil, eqk_nil, ge_key, List.cons.injEq, D.op.injEq, V.ref.injEq, Option.isSome_some, Option.isSome_none, aInSign, Tg.put, putAll, gwipe,
  now_int, now_str, now_tup, now_lst, now_non, now_bl, now_opt, eqb_opt, eqb_so, ins_rcd, f_key, f_name, f_since, f_worth, f_gone, eqk_int, eqk_non, eqk_key, eqb_int, eqb_str, eqb_key, atI_0, atI_1, atI_2, atI_3, atI_4, atI_last, cut_2, List.take_succ_cons, List.take_zero, true_and, and_true, if_true,
  startD, List.map_cons, List.map_nil, List.length_cons, List.length_nil, List.cons_append, List.nil_append, List.replicate, List.getElem?_cons_zero, List.getElem?_cons_succ, List.set_cons_zero, List.set_cons_succ, Option.some.injEq, exists_eq_left, exists_eq_left', D.int.injEq, D.str.injEq, D.bl.injEq, D.tup.injEq, D.lst.injEq, exists_and_left, exists_and_right, Nat.reduceAdd, Nat.reduceSub, Int.cast_ofNat_Int, Bool.false_eq_true, false_imp_iff, true_imp_iff, reduceCtorEq, decide_eq_true_eq, decide_eq_false_iff_not, decide_true, decide_false, not_true_eq_false, not_false_eq_true, Bool.not_true, Bool.not_false, Bool.not_eq_true', Bool.not_eq_false', ne_eq, and_self, implies_true, ↓reduceIte, aIsN, D.isNon, sz_0, sz_1, sz_2, sz_3, sz_4, sz_5, sz_6, wAsg, ix_l0, ix_l1, ix_l2, wPar, wSortSet, wDGet2, aIn, wRev])
local macro_rules | `(tactic| walk_at "rdd") => `(tactic| simp only [wDrop, wRet, wSet, wIfS, wDPut, wFld, wSetFld, wCall, wCB, wMake, wVar, wC, wOp, wTest, wChain, wAndV, wOrV, wNotV, wAnd, wOr, wNot, wIf, wTruth, wNil, wCons, wTup, wLst, wLstO, wDict, aInt, aIntC, ix_tup, ix_lst, ix_str, ix_scr, len_lst, len_tup, len_scr, len_str, add_int, add_str, add_tup, add_lst, sl_tup, sl_lst, tru_bl, tru_non, tru_int, tru_lst, tru_tup, tru_scr, ex_key, Dd.d, Dd.key, Dd.word, Dd.tl, eqk_new, eqk_name, eqk_worth, eqk_drop, w_nn, w_wn, w_dn, w_nd, w_wd, w_wm, w_dm, w_dw, w_nw, w_ed, w_em, w_ew, ix_nm0, ix_nm1, now_table, eqb_dd, eqb_self, wSl, wNoPart, wPart, wSeq, wNext, wNever, wCont, wBreak, wNeg, wYes, wBM, aAppend, aStr, aIntB, wIter, wIterT, wIterS, wRng1, wRev, wLenSet, wDGet, wDGet2, wDIn, wKeys, wVals, aEq, aNe, aAll, aNotInK, lt_int, lt_key, eqb_nil, eqk_nil, ge_key, List.cons.injEq, D.op.injEq, V.ref.injEq, Option.isSome_some, Option.isSome_none, aInSign, Tg.put, putAll, gwipe,
  now_int, now_str, now_tup, now_lst, now_non, now_bl, now_opt, eqb_opt, eqb_so, ins_rcd, f_key, f_name, f_since, f_worth, f_gone, eqk_int, eqk_non, eqk_key, eqb_int, eqb_str, eqb_key, atI_0, atI_1, atI_2, atI_3, atI_4, atI_last, cut_2, List.take_succ_cons, List.take_zero, true_and, and_true, if_true,
  startD, List.map_cons, List.map_nil, List.length_cons, List.length_nil, List.cons_append, List.nil_append, List.replicate, List.getElem?_cons_zero, List.getElem?_cons_succ, List.set_cons_zero, List.set_cons_succ, Option.some.injEq, exists_eq_left, exists_eq_left', D.int.injEq, D.str.injEq, D.bl.injEq, D.tup.injEq, D.lst.injEq, exists_and_left, exists_and_right, Nat.reduceAdd, Nat.reduceSub, Int.cast_ofNat_Int, Bool.false_eq_true, false_imp_iff, true_imp_iff, reduceCtorEq, decide_eq_true_eq, decide_eq_false_iff_not, decide_true, decide_false, not_true_eq_false, not_false_eq_true, Bool.not_true, Bool.not_false, Bool.not_eq_true', Bool.not_eq_false', ne_eq, and_self, implies_true, ↓reduceIte, aIsN, D.isNon, sz_0, sz_1, sz_2, sz_3, sz_4, sz_5, sz_6, wAsg, ix_l0, ix_l1, ix_l2, wPar, wSortSet, wDGet2, aIn, wRev])
local macro_rules | `(tactic| walk_at "rq") => `(tactic| simp only [wDrop, wRet, wSet, wIfS, wDPut, wFld, wSetFld, wCall, wCB, wMake, wVar, wC, wOp, wTest, wChain, wAndV, wOrV, wNotV, wAnd, wOr, wNot, wIf, wTruth, wNil, wCons, wTup, wLst, wLstO, wDict, aInt, aIntC, ix_tup, ix_lst, ix_str, ix_scr, len_lst, len_tup, len_scr, len_str, add_int, add_str, add_tup, add_lst, sl_tup, sl_lst, tru_bl, tru_non, tru_int, tru_lst, tru_tup, tru_scr, ex_key, sl_dd, ix_dd0, ix_dd2, eqk_word, wd_new, wd_name, wd_worth, wd_drop, ix_n3, ix_n4, ix_m3, ix_m4, ix_w3, ix_w4, ix_d3, eqk_new, eqk_name, eqk_worth, eqk_drop, w_nn, w_wn, w_dn, w_nd, w_wd, w_wm, w_dm, w_dw, w_nw, w_ed, w_em, w_ew, ix_nm0, ix_nm1, now_table, eqb_dd, eqb_self, wSl, wNoPart, wPart, wNext, wNever, wCont, wBreak, wNeg, wYes, wBM, aAppend, aStr, aIntB, wIter, wIterT, wIterS, wRng1, wRev, wLenSet, wDGet, wDGet2, wDIn, wKeys, wVals, aEq, aNe, aAll, aNotInK, lt_int, lt_key, eqb_nil, eqk_nil, ge_key, List.cons.injEq, D.op.injEq, V.ref.injEq, Option.isSome_some, Option.isSome_none, aInSign, Tg.put, putAll, gwipe,
  now_int, now_str, now_tup, now_lst, now_non, now_bl, now_opt, eqb_opt, eqb_so, ins_rcd, f_key, f_name, f_since, f_worth, f_gone, eqk_int, eqk_non, eqk_key, eqb_int, eqb_str, eqb_key, atI_0, atI_1, atI_2, atI_3, atI_4, atI_last, cut_2, List.take_succ_cons, List.take_zero, true_and, and_true, if_true,
  startD, List.map_cons, List.map_nil, List.length_cons, List.length_nil, List.cons_append, List.nil_append, List.replicate, List.getElem?_cons_zero, List.getElem?_cons_succ, List.set_cons_zero, List.set_cons_succ, Option.some.injEq, exists_eq_left, exists_eq_left', D.int.injEq, D.str.injEq, D.bl.injEq, D.tup.injEq, D.lst.injEq, exists_and_left, exists_and_right, Nat.reduceAdd, Nat.reduceSub, Int.cast_ofNat_Int, Bool.false_eq_true, false_imp_iff, true_imp_iff, reduceCtorEq, decide_eq_true_eq, decide_eq_false_iff_not, decide_true, decide_false, not_true_eq_false, not_false_eq_true, Bool.not_true, Bool.not_false, Bool.not_eq_true', Bool.not_eq_false', ne_eq, and_self, implies_true, ↓reduceIte, aIsN, D.isNon, sz_0, sz_1, sz_2, sz_3, sz_4, sz_5, sz_6, wAsg, ix_l0, ix_l1, ix_l2, wPar, wSortSet, wDGet2, aIn, wRev])
theorem if_by {t : WT} {a b : WS} {R : AE} {Γ : Ctx} {M : Mp} (Pd : Bool → Mp → Prop) (h1 : ∀ Ψ : Bool → Mp → Prop, (∀ k M', Pd k M' → Ψ k M') → t Γ M Ψ) (h2 : ∀ M', Pd true M' → a R Γ M') (h3 : ∀ M', Pd false M' → b R Γ M') : wIfS t a b R Γ M :=
  h1 _ fun k M' hk => ⟨fun e => h2 M' (e ▸ hk), fun e => h3 M' (e ▸ hk)⟩
theorem seq_step {a b : WS} {R : AE} {Γ : Ctx} {M : Mp} (h : a { R with nx := b R } Γ M) : wSeq a b R Γ M := h
theorem seq_tail {a b : WS} {R : AE} {Γ : Ctx} {M : Mp} (S : Ctx → Mp → Prop) (h2 : ∀ Γ' M', S Γ' M' → b R Γ' M') (h1 : ∀ nx : Ctx → Mp → Prop, (∀ Γ' M', S Γ' M' → nx Γ' M') → a { R with nx := nx } Γ M) : wSeq a b R Γ M := h1 _ h2
theorem lc_open {wi : WI} {T : Tg} {wc : WT} {we : WE} {own : List Nat} {Γ : Ctx} {M : Mp} {Φ : KD} (h : wi Γ M fun ds S M1 => ∃ J : Nat → List D → Mp → Prop, J 0 [] M1 ∧ (∀ i acc M', J i acc M' → S M') ∧
  (∀ i d acc M', ds[i]? = some d → J i acc M' → ∃ Γ2, T.put d (gwipe Γ own) = some Γ2 ∧ wc Γ2 M' fun b M2 => (b = true → we Γ2 M2 fun y M3 => acc.length < sizeLine ∧ J (i + 1) (acc ++ [y]) M3) ∧ (b = false → J (i + 1) acc M2)) ∧ ∀ acc M', J ds.length acc M' → Φ (.lst acc) M') : wLc wi T wc we own Γ M Φ := h
def sc_law1 : Scope := { kind := .function, names := [(Str.ofString ".0", NameKind.local), (Str.ofString "deed", NameKind.cell), (Str.ofString "_law_faces", NameKind.globalImplicit), (Str.ofString "deeds", NameKind.cell), (Str.ofString "mine", NameKind.cell)], isGenerator := false, isCoroutine := false }
noncomputable def Gn (ns : List Int) (t : Addr) (xs : List Dd) (v4 v5 v6 v7 v8 v9 v10 v11 v12 v13 : Option D) : Ctx := [some (.scr ns), some (.op (.ref t)), some (.lst (xs.map Dd.d)), some (.lst ((there xs).map ltup)), v4, v5, v6, v7, v8, v9, v10, v11, v12, v13, none, none, none, none]
noncomputable def J_r (ns : List Int) (t : Addr) (xs : List Dd) (M : Mp) (i : Nat) (Γ' : Ctx) (M' : Mp) : Prop := ∃ v4, Γ' = Gn ns t xs v4 none none none none none none none none none ∧ M' = M
noncomputable def J_n (ns : List Int) (t : Addr) (xs : List Dd) (v4 v5 : Option D) (M : Mp) (i : Nat) (Γ' : Ctx) (M' : Mp) : Prop := ∃ v6, Γ' = Gn ns t xs v4 v5 v6 none none none none none none none ∧ M' = M
noncomputable def J_s (t : Addr) (xs : List Dd) (M : Mp) (zl : Nat) (i : Nat) (acc : List D) (M' : Mp) : Prop := ∃ (ys : List Dd) (zs : List D), ys.Sublist (xs.take i) ∧ acc = ys.map Dd.d ∧ M' = Tw [] M t zs ∧ zs.length ≤ zl + i
theorem there_le (xs : List Dd) : (there xs).length ≤ xs.length := by
  have h1 : (there xs).length ≤ (ordd xs).length := by
    unfold there rows
    rw [List.length_mergeSort]
    refine Nat.le_trans (List.length_filter_le _ _) ?_
    rw [List.length_map]
    exact made_len _
  rw [(ordd_perm xs).length_eq] at h1
  exact Nat.le_trans h1 uniq_len
theorem good_more {xs ys : List Dd} (g : Good xs) (h : ∀ y, y ∈ ys → y ∈ xs) (l : ys.length < 64) : Good ys := ⟨fun x hx => g.ok x (h x hx), fun x y hx hy e => g.one x y (h x hx) (h y hy) e, l⟩
theorem ap_self (b : List Sh) : apL b b = [] := by
  unfold apL
  rw [List.flatMap_eq_nil_iff]
  intro k _
  unfold apk
  rw [if_pos eqb_self]
theorem ap_filter (b n : List Sh) : apL b n = ((unionK b n).filter fun k => !D.eqb (optF (lookS b k)) (optF (lookS n k))).map fun k => .tup [Ky.d k, optF (lookS b k), optF (lookS n k)] := by
  unfold apL
  generalize unionK b n = l
  induction l with
  | nil => rfl
  | cons k l ih =>
    rw [List.flatMap_cons, ih]
    unfold apk
    by_cases c : D.eqb (optF (lookS b k)) (optF (lookS n k)) = true
    · rw [if_pos c, List.filter_cons_of_neg (by simp [c])]
      rfl
    · rw [if_neg c, List.filter_cons_of_pos (by simpa using c)]
      rfl
theorem ap_ok {xs ys : List Dd} (g : Good xs) (g2 : Good ys) : D.eqOk (.lst (apL (shown (there xs)) (shown (there ys)))) := eqk_list fun d hd => by
  rw [ap_filter] at hd
  obtain ⟨k, _, rfl⟩ := List.mem_map.mp hd
  have k1 : D.eqOk (optF (lookS (shown (there xs)) k)) := eqk_optF fun q hq => (shown_ok g (lookS_mem hq).1).1
  have k2 : D.eqOk (optF (lookS (shown (there ys)) k)) := eqk_optF fun q hq => (shown_ok g2 (lookS_mem hq).1).1
  have d1 : ∀ o : Option Sh, D.deep (optF o) ≤ 1 := fun o => by cases o <;> simp [optF, faceD, D.deep, D.deepAll]
  have e1 := d1 (lookS (shown (there xs)) k)
  have e2 := d1 (lookS (shown (there ys)) k)
  refine ⟨?_, ?_⟩
  · simp only [D.plain, D.plainAll, k1.1, k2.1, Bool.and_true, Bool.true_and]
  · simp only [D.deep, D.deepAll]
    omega
theorem why_ok {xs : List Dd} (g : Good xs) (r : Rc) : D.eqOk (whyD xs r) := by
  have ox : ∀ (p : Dd → Bool), D.plain (optX (((ordd xs).filter p).getLast?)) = true ∧ D.deep (optX (((ordd xs).filter p).getLast?)) ≤ 60 := fun p => by
    cases e : ((ordd xs).filter p).getLast? with
    | none => simp [optX, D.plain, D.deep]
    | some x => exact plain_dd (g.ok x (mem_ordd.mp (List.mem_filter.mp (List.mem_of_getLast? e)).1))
  obtain ⟨a1, a2⟩ := ox fun x => decide (x.key = r.since)
  obtain ⟨b1, b2⟩ := ox (tellsW r.key)
  have k3 : D.plain (.lst ((rivalsOf xs r).map fun q => Ky.d q.key)) = true ∧ D.deep (.lst ((rivalsOf xs r).map fun q => Ky.d q.key)) ≤ 60 := by
    have e : ((rivalsOf xs r).map fun q => Ky.d q.key) = ((rivalsOf xs r).map Rc.key).map Ky.d := by rw [List.map_map]; rfl
    refine ⟨by rw [e]; exact (eqk_keys _).1, ?_⟩
    simp only [D.deep]
    have : D.deepAll ((rivalsOf xs r).map fun q => Ky.d q.key) ≤ 1 := deepAll_le fun d hd => by
      obtain ⟨q, _, rfl⟩ := List.mem_map.mp hd
      simp [D.deep, D.deepAll]
    omega
  unfold whyD sinceX worthX
  refine ⟨?_, ?_⟩
  · simp only [D.plain, D.plainAll, a1, b1, Bool.and_true, Bool.true_and]
    exact k3.1
  · have k4 := k3.2
    simp only [D.deep, D.deepAll] at k4 ⊢
    omega
theorem want_rows {xs : List Dd} (n : Str) : ((there xs).filter fun r => decide (r.name = n)).map (fun r => Ky.d r.key) = (wantL xs n).map Ky.d := by unfold wantL; rw [List.map_map]; rfl
section
variable {P : Program} {w : World} {K : PySem.W.Frag} {mg : Str → Option Value} {base : Heap} {A : Ad} (T : Tx K w mg A)
include T
def sp_law (Pt : Addr) : ASp := fun ds M Φ => ∃ ns : List Int, ds = [.scr ns] ∧ (Pt, MO.tab lamq) ∈ M ∧ ∀ M', Φ (.bl true) M'
theorem ok_law (G_law_deeds : OkD P w K mg base A.law_deeds A.d_law_deeds ["script", "town", "count", "most"] 7 (sp_law_deeds)) (G_law_pick : OkD P w K mg base A.law_pick A.d_law_pick ["script", "town", "some"] 4 (sp_law_pick)) (G_law_there : OkD P w K mg base A.law_there A.d_law_there ["deeds"] 1 (sp_law_there)) (G_why : OkD P w K mg base A.why A.d_why ["deeds", "key"] 6 (sp_why A)) (G_law_why : OkD P w K mg base A.law_why A.d_law_why ["deeds", "rows", "row"] 1 (sp_law_why)) (G_law_told : OkD P w K mg base A.law_told A.d_law_told ["kind", "some"] 8 (sp_law_told A)) (G_wanting : OkD P w K mg base A.wanting A.d_wanting ["deeds", "name"] 6 (sp_wanting A)) (G_law_draw : OkD P w K mg base A.law_draw A.d_law_draw ["script", "town", "many"] 3 (sp_law_draw)) (G_law_faces : OkD P w K mg base A.law_faces A.d_law_faces ["deeds"] 3 (sp_law_faces)) (G_apart : OkD P w K mg base A.apart A.d_apart ["one", "other"] 7 (sp_apart A)) (G_silent : OkD P w K mg base A.silent A.d_silent ["deeds"] 7 (sp_silent A)) : OkD P w K mg base A.law A.d_law ["script"] 9 (sp_law A.Pt) := by
  refine def_ok T.f_law.F sc_law ?len (fun cdv Ar outer s H E hr =>
      (db_cons (ds_set 1 sc_law.nd (.inr rfl) (d_lstO da_nil))
      (db_cons (ds_set 2 sc_law.nd (.inr rfl) (d_calld T.f_law_deeds G_law_deeds (hr.mono (by decide)) (da_cons (d_var 0) (da_cons (d_var 1) (da_cons d_int (da_cons (d_calld T.f_law_pick G_law_pick (hr.mono (by decide)) (da_cons (d_var 0) (da_cons (d_var 1) (da_cons (d_lst (da_cons d_int (da_cons d_int (da_cons d_int da_nil)))) da_nil)))) da_nil))))))
      (db_cons (ds_set 3 sc_law.nd (.inl rfl) (d_calld T.f_law_there G_law_there (hr.mono (by decide)) (da_cons (d_var 2) da_nil)))
      (db_cons (ds_for PassesOwn.never rfl (di_list (d_var 3)) (dg_one 4 sc_law.nd (.inl rfl))
      (db_one (ds_if (dt_cmp (o_ne hr.units) (d_calld T.f_why G_why (hr.mono (by decide)) (da_cons (d_callTy c_list T.b_list (by decide +kernel) (da_cons (d_var 2) da_nil)) (da_cons (d_ix (d_var 4) d_int) da_nil))) (d_calld T.f_law_why G_law_why (hr.mono (by decide)) (da_cons (d_var 2) (da_cons (d_var 3) (da_cons (d_var 4) da_nil))))) (db_one (ds_ret d_bl)) db_nil)))
      (db_cons (ds_set 5 sc_law.nd (.inl rfl) (d_calld T.f_law_pick G_law_pick (hr.mono (by decide)) (da_cons (d_var 0) (da_cons (d_var 1) (da_cons (d_op o_add (d_lst (da_cons (d_tup (da_cons d_int (da_cons d_int da_nil))) (da_cons (d_tup (da_cons d_int (da_cons d_int da_nil))) da_nil))) (d_lc [("deed", 14)] rfl sc_law.nd (di_list (d_var 2)) (blkOk_by (N := N_law) (sc := defScope s_law) (by decide +kernel)) (fun _ _ _ _ _ => (dg_one 14 sc_law.nd (by first | exact .inl rfl | exact .inr rfl))) (fun _ _ _ _ _ => dts_nil) (fun _ _ _ _ _ => (d_sl (d_var 14) do_none (do_some d_int))))) da_nil)))))
      (db_cons (ds_if (PW.pt (dw_and (dt_cmp (o_notIn (units65 hr)) (d_var 5) (d_lc [("row", 4)] rfl sc_law.nd (di_list (d_var 3)) (blkOk_by (N := N_law) (sc := defScope s_law) (by decide +kernel)) (fun _ _ _ _ _ => (dg_one 4 sc_law.nd (by first | exact .inl rfl | exact .inr rfl))) (fun _ _ _ _ _ => dts_nil) (fun _ _ _ _ _ => (d_ix (d_var 4) d_int)))) (dw_and1 (dt_cmp (o_ne hr.units) (d_calld T.f_law_told G_law_told (hr.mono (by decide)) (da_cons d_int (da_cons (d_lst (da_cons (d_callTy c_list T.b_list (by decide +kernel) (da_cons (d_var 2) da_nil)) (da_cons (d_var 5) da_nil))) da_nil))) (d_tup (da_cons d_str (da_cons d_str da_nil))))))) (db_one (ds_ret d_bl)) db_nil)
      (db_cons (ds_for PassesOwn.never rfl (di_list (d_lst (da_cons d_str (da_cons d_str (da_cons d_str (da_cons d_str (da_cons d_str da_nil))))))) (dg_one 6 sc_law.nd (.inr rfl))
      (db_one (ds_if (dt_cmp (o_ne hr.units) (d_calld T.f_wanting G_wanting (hr.mono (by decide)) (da_cons (d_callTy c_list T.b_list (by decide +kernel) (da_cons (d_var 2) da_nil)) (da_cons (d_var 6) da_nil))) (d_lc [("row", 4)] rfl sc_law.nd (di_list (d_var 3)) (blkOk_by (N := N_law) (sc := defScope s_law) (by decide +kernel)) (fun _ _ _ _ _ => (dg_one 4 sc_law.nd (by first | exact .inl rfl | exact .inr rfl))) (fun _ _ _ _ _ => (dts_one (dt_cmp (o_eq hr.units) (d_ix (d_var 4) d_int) (d_var 6)))) (fun _ _ _ _ _ => (d_ix (d_var 4) d_int)))) (db_one (ds_ret d_bl)) db_nil)))
      (db_cons (ds_set 7 sc_law.nd (.inr rfl) (d_calld T.f_law_draw G_law_draw (hr.mono (by decide)) (da_cons (d_var 0) (da_cons (d_var 1) (da_cons (d_op o_add (d_callB c_len T.b_len (by decide +kernel) (da_cons (d_var 2) da_nil)) d_int) da_nil)))))
      (db_cons (ds_setLc 8 [("k", 15)] rfl sc_law.nd rfl (sw_true rfl rfl rfl (by decide +kernel)) (di_range1 T.b_range (da_cons (d_callB c_len T.b_len (by decide +kernel) (da_cons (d_var 2) da_nil)) da_nil)) (blkOk_by (N := N_law) (sc := defScope s_law) (by decide +kernel)) (fun _ _ _ _ _ => (dg_one 15 sc_law.nd (by first | exact .inl rfl | exact .inr rfl))) (fun _ _ _ _ _ => (dts_one (PW.pt (dw_and (dt_cmp (o_ne hr.units) (d_var 15) (d_var 7)) (dw_and1 (dt_cmp o_gt (d_calld T.f_law_draw G_law_draw (hr.mono (by decide)) (da_cons (d_var 0) (da_cons (d_var 1) (da_cons d_int da_nil)))) d_int)))))) (fun _ _ _ _ _ => (d_ix (d_var 2) (d_var 15))))
      (db_cons (ds_setLc 9 [("k", 15)] rfl sc_law.nd rfl (sw_true rfl rfl rfl (by decide +kernel)) (di_range1 T.b_range (da_cons (d_callB c_len T.b_len (by decide +kernel) (da_cons (d_var 2) da_nil)) da_nil)) (blkOk_by (N := N_law) (sc := defScope s_law) (by decide +kernel)) (fun _ _ _ _ _ => (dg_one 15 sc_law.nd (by first | exact .inl rfl | exact .inr rfl))) (fun _ _ _ _ _ => (dts_one (dt_cmp o_gt (d_calld T.f_law_draw G_law_draw (hr.mono (by decide)) (da_cons (d_var 0) (da_cons (d_var 1) (da_cons d_int da_nil)))) d_int))) (fun _ _ _ _ _ => (d_ix (d_var 2) (d_var 15))))
      (db_cons (ds_asg (d_tup (da_cons (d_calld T.f_law_faces G_law_faces (hr.mono (by decide)) (da_cons (d_var 9) da_nil)) (da_cons (d_calld T.f_law_faces G_law_faces (hr.mono (by decide)) (da_cons (d_var 8) da_nil)) da_nil))) (dg_many [10, 11] rfl (pgs_cons (pg_name (i := 10) sc_law.nd rfl (.inr rfl)) (pgs_cons (pg_name (i := 11) sc_law.nd rfl (.inr rfl)) pgs_nil))))
      (db_cons (ds_set 12 sc_law.nd (.inl rfl) (d_sortedSet T.b_sorted T.b_set hr (d_op o_add (d_listKeys T.b_list hr (d_var 10)) (d_listKeys T.b_list hr (d_var 11)))))
      (db_cons (ds_setLc 12 [("key", 16)] rfl sc_law.nd rfl (sw_true rfl rfl rfl (by decide +kernel)) (di_list (d_var 12)) (blkOk_by (N := N_law) (sc := defScope s_law) (by decide +kernel)) (fun _ _ _ _ _ => (dg_one 16 sc_law.nd (by first | exact .inl rfl | exact .inr rfl))) (fun _ _ _ _ _ => (dts_one (dt_cmp (o_ne hr.units) (d_dget2 (hu_of hr) (d_var 10) (d_var 16) d_non) (d_dget2 (hu_of hr) (d_var 11) (d_var 16) d_non)))) (fun _ _ _ _ _ => (d_var 16)))
      (db_cons (ds_if (dt_cmp (o_ne hr.units) (d_calld T.f_apart G_apart (hr.mono (by decide)) (da_cons (d_op o_add (d_var 9) (d_sl (d_var 9) do_none (do_some d_int))) (da_cons (d_callTy c_list T.b_list (by decide +kernel) (da_cons (d_var 8) da_nil)) da_nil))) (d_lc [("key", 16)] rfl sc_law.nd (di_list (d_var 12)) (blkOk_by (N := N_law) (sc := defScope s_law) (by decide +kernel)) (fun _ _ _ _ _ => (dg_one 16 sc_law.nd (by first | exact .inl rfl | exact .inr rfl))) (fun _ _ _ _ _ => dts_nil) (fun _ _ _ _ _ => (d_tup (da_cons (d_var 16) (da_cons (d_dget2 (hu_of hr) (d_var 10) (d_var 16) d_non) (da_cons (d_dget2 (hu_of hr) (d_var 11) (d_var 16) d_non) da_nil))))))) (db_one (ds_ret d_bl)) db_nil)
      (db_cons (ds_set 10 sc_law.nd (.inr rfl) (d_calld T.f_law_faces G_law_faces (hr.mono (by decide)) (da_cons (d_var 2) da_nil)))
      (db_cons (ds_setLc 13 [("deed", 14)] rfl sc_law.nd rfl (sw_true rfl rfl rfl (by decide +kernel)) (di_list (d_callB (c_sorted hr) T.b_sorted (by decide +kernel) (da_cons (d_var 2) da_nil))) (blkOk_by (N := N_law) (sc := defScope s_law) (by decide +kernel)) (fun _ _ _ _ _ => (dg_one 14 sc_law.nd (by first | exact .inl rfl | exact .inr rfl))) (fun _ _ _ _ _ => (dts_one (dt_cmp (o_eqDic (units65 hr)) (d_calld T.f_law_faces G_law_faces (hr.mono (by decide)) (da_cons (d_lc [("one", 17)] rfl sc_law.nd (di_list (d_var 2)) (blkOk_by (N := N_law) (sc := sc_law1) (by decide +kernel)) (fun _ _ _ _ _ => (dg_one 17 sc_law.nd (by first | exact .inl rfl | exact .inr rfl))) (fun _ _ _ _ _ => (dts_one (dt_cmp (o_ne hr.units) (d_var 17) (d_var 14)))) (fun _ _ _ _ _ => (d_var 17))) da_nil)) (d_var 10)))) (fun _ _ _ _ _ => (d_var 14)))
      (db_one (ds_ret (d_and (d_cmp (o_eq hr.units) (d_calld T.f_silent G_silent (hr.mono (by decide)) (da_cons (d_op o_add (d_rev (d_var 2)) (d_sl (d_var 2) do_none (do_some d_int))) da_nil)) (d_var 13)) (d_one (d_cmp (o_eq hr.units) (d_calld T.f_apart G_apart (hr.mono (by decide)) (da_cons (d_op o_add (d_var 2) (d_sl (d_var 2) (do_some d_int) do_none)) (da_cons (d_rev (d_var 2)) da_nil))) (d_lst da_nil))))))))))))))))))))))) ?read
  case len => rintro ds M Φ ⟨ns, rfl, _⟩; rfl
  case read =>
    rintro ds M Φ ⟨ns, rfl, ht, h⟩
    have sz : ∀ n : Nat, n ≤ 200 → n ≤ sizeLine := fun n hn => by rw [sizeLine_eq]; omega
    walk_at "rq"
    refine seq_step ?_
    walk_at "rq"
    refine fun t htn => seq_step ?_
    walk_at "rq"
    refine ⟨ns, t, _, [], M, [], rfl, rfl, by simp, by simp, by simp, fun y hy => ?_⟩
    obtain ⟨most, rfl, m0, m1⟩ : ∃ m : Int, y = .int m ∧ 0 < m ∧ m ≤ 999 := by
      simp only [List.mem_cons, List.not_mem_nil, or_false] at hy
      rcases hy with rfl | rfl | rfl
      · exact ⟨9, rfl, by decide, by decide⟩
      · exact ⟨25, rfl, by decide, by decide⟩
      · exact ⟨999, rfl, by decide, by decide⟩
    refine ⟨ns, t, 20, most, [], M, _, rfl, rfl, by decide, m0, m1, by simp, fun xs zs dd hlen hz => ?_⟩
    simp only [List.length_append, List.length_cons, List.length_nil] at hz
    have g : Good xs := dd.good (by omega)
    have lth := there_le xs
    have mt : ∀ zs, (A.Pt, MO.tab lamq) ∈ Tw [] M t zs := fun zs => by simp [ht]
    refine seq_step ?_
    walk_at "rq"
    refine ⟨_, xs, rfl, .self _, dd, by omega, ?_⟩
    refine seq_tail (fun Γ' M' => ∃ v4, Γ' = Gn ns t xs v4 none none none none none none none none none ∧ M' = Tw [] M t zs) ?_ (fun nx hnx => ?_)
    · rintro Γ' M' ⟨v4, rfl, rfl⟩
      simp only [Gn]
      refine seq_step ?_
      walk_at "rq"
      refine lc_all xs Dd.d (fun x => Ky.d x.key) (sz _ (by omega)) (fun Ψ h => ?_) (fun x hx => ⟨_, rfl, fun Φ' h' => ?_⟩) ?_
      · walk_at "rd"
        exact h _ trivial
      · walk_at "rd"
        exact h'
      refine add_lst.mpr ⟨sz _ (by simp; omega), ns, t, _, [], M, zs, rfl, rfl, by simp, by simp; omega, by omega, fun gd hgd => ?_⟩
      obtain ⟨gone, rfl⟩ : ∃ k : Ky, gd = Ky.d k := by
        simp only [List.mem_append, List.mem_map, List.mem_cons, List.not_mem_nil, or_false] at hgd
        rcases hgd with (rfl | rfl) | ⟨x, _, rfl⟩
        · exact ⟨(1, 1), rfl⟩
        · exact ⟨(999, 5), rfl⟩
        · exact ⟨_, rfl⟩
      clear hgd
      refine seq_step ?_
      refine if_by (fun k M' => k = false ∧ M' = Tw [] M t (zs ++ [.int 0])) (fun Ψ hΨ => ?_) (fun M' z => Bool.noConfusion z.1) ?_
      · walk_at "rd"
        refine lc_all (there xs) ltup (fun r => Ky.d r.key) (sz _ (by omega)) (fun Ψ h => ?_) (fun r hr => ⟨_, rfl, fun Φ' h' => ?_⟩) ?_
        · walk_at "rd"
          exact h _ trivial
        · walk_at "rd"
          exact h'
        have ek : D.eqOk (.lst ((there xs).map fun r => Ky.d r.key)) := by
          have e : ((there xs).map fun r => Ky.d r.key) = ((there xs).map Rc.key).map Ky.d := by rw [List.map_map]; rfl
          rw [e]
          exact eqk_keys _
        refine ⟨_, .self _, ek, fun z => ?_, fun z => hΨ _ _ ⟨rfl, rfl⟩⟩
        have rn : rowAt xs gone = none := find_none' fun r hr e => by
          rw [List.any_map, List.any_eq_false] at z
          have := z r hr
          simp only [Function.comp, eqb_key, decide_eq_true_eq] at this
          exact this e
        have ekr : D.eqOk (refD "row") := by
          have h1 : PyData.strOk "refused" = true ∧ PyData.strOk "row" = true := by decide +kernel
          simp [refD, D.eqOk, D.plain, D.plainAll, D.deep, D.deepAll, h1.1, h1.2]
        refine ⟨_, _, rfl, .self _, _, _, xs, gone, rfl, .self _, g, mt _, rn, _, .self _, ekr, ekr, ?_⟩
        rw [show D.tup [.str "refused", .str "row"] = refD "row" from rfl, eqb_self]
        exact hΨ _ _ ⟨rfl, rfl⟩
      rintro M' ⟨_, rfl⟩
      simp only [wNext]
      refine seq_tail (fun Γ' M' => ∃ v6, Γ' = Gn ns t xs v4 (some (Ky.d gone)) v6 none none none none none none none ∧ M' = Tw [] M t (zs ++ [.int 0])) ?_ (fun nx hnx => ?_)
      · rintro Γ' M' ⟨v6, rfl, rfl⟩
        simp only [Gn]
        refine seq_step ?_
        walk_at "rq"
        refine ⟨ns, t, _, [], M, _, rfl, rfl, by omega, by rw [List.length_map]; omega, by rw [List.length_append, List.length_singleton]; omega, fun at_ a0 a1 => ?_⟩
        refine seq_step ?_
        walk_at "rq"
        refine lc_open ?_
        walk_at "rq"
        have eR : (((xs.map Dd.d).length : Int)).toNat = xs.length := by simp
        have keep : ∀ (i : Nat) (ys : List Dd), ys.Sublist (xs.take i) → ys.Sublist (xs.take (i + 1)) := fun i ys s => by
          have := List.take_sublist i (xs.take (i + 1))
          rw [List.take_take, Nat.min_eq_left (by omega)] at this
          exact s.trans this
        have more : ∀ (i : Nat) (ys : List Dd) (x : Dd), xs[i]? = some x → ys.Sublist (xs.take i) → (ys ++ [x]).Sublist (xs.take (i + 1)) := fun i ys x hx s => by
          rw [take_more hx]
          exact s.append (List.Sublist.refl _)
        refine ⟨by rw [List.length_map]; omega, by rw [List.length_map]; omega, ?_⟩
        rw [eR]
        refine ⟨J_s t xs M (zs.length + 2), ⟨[], _, by simp, rfl, rfl, by simp⟩, ?_, ?_⟩
        · rintro i d acc M' hd ⟨ys, zs', sub, rfl, rfl, lz⟩
          have hi : i < xs.length := by
            have := (List.getElem?_eq_some_iff.mp hd).1
            simpa using this
          have ed : d = .int i := by
            have := (List.getElem?_eq_some_iff.mp hd).2.symm
            simpa using this
          subst ed
          have hx : xs[i]? = some xs[i] := List.getElem?_eq_getElem hi
          have hix : atI (xs.map Dd.d) (i : Int) = some xs[i].d := by rw [atI_nat, List.getElem?_map, hx]; rfl
          have ly : ys.length ≤ i := by
            have := sub.length_le
            rw [List.length_take] at this
            omega
          refine ⟨_, .self _, eqk_int, fun _ => ?_, fun _ => ⟨ys, zs', keep i ys sub, rfl, rfl, by omega⟩⟩
          refine ⟨ns, t, _, [], M, zs', rfl, rfl, by decide, by decide, by omega, fun u u0 u1 => ⟨_, rfl, fun _ => ix_lst.mpr ⟨_, hix, ?_⟩, fun _ => ⟨ys, _, keep i ys sub, rfl, rfl, by rw [List.length_append, List.length_singleton]; omega⟩⟩⟩
          exact ⟨by rw [List.length_map, sizeLine_eq]; omega, ys ++ [xs[i]], _, more i ys _ hx sub, by simp, rfl, by rw [List.length_append, List.length_singleton]; omega⟩
        · rintro acc M' ⟨yo, z3, subo, rfl, rfl, lz3⟩
          simp only [List.length_map, List.length_range] at subo lz3
          rw [List.take_length] at subo
          have ddo := dd.sub subo
          have lyo := subo.length_le
          refine seq_step ?_
          walk_at "rq"
          refine lc_open ?_
          walk_at "rq"
          refine ⟨by rw [List.length_map]; omega, by rw [List.length_map]; omega, ?_⟩
          rw [eR]
          refine ⟨J_s t xs M z3.length, ⟨[], _, by simp, rfl, rfl, by simp⟩, ?_, ?_⟩
          · rintro i d acc M' hd ⟨ys, zs', sub, rfl, rfl, lz⟩
            have hi : i < xs.length := by
              have := (List.getElem?_eq_some_iff.mp hd).1
              simpa using this
            have ed : d = .int i := by
              have := (List.getElem?_eq_some_iff.mp hd).2.symm
              simpa using this
            subst ed
            have hx : xs[i]? = some xs[i] := List.getElem?_eq_getElem hi
            have hix : atI (xs.map Dd.d) (i : Int) = some xs[i].d := by rw [atI_nat, List.getElem?_map, hx]; rfl
            have ly : ys.length ≤ i := by
              have := sub.length_le
              rw [List.length_take] at this
              omega
            refine ⟨ns, t, _, [], M, zs', rfl, rfl, by decide, by decide, by omega, fun u u0 u1 => ⟨_, rfl, fun _ => ix_lst.mpr ⟨_, hix, ?_⟩, fun _ => ⟨ys, _, keep i ys sub, rfl, rfl, by rw [List.length_append, List.length_singleton]; omega⟩⟩⟩
            exact ⟨by rw [List.length_map, sizeLine_eq]; omega, ys ++ [xs[i]], _, more i ys _ hx sub, by simp, rfl, by rw [List.length_append, List.length_singleton]; omega⟩
          · rintro acc M' ⟨ym, z4, subm, rfl, rfl, lz4⟩
            simp only [List.length_map, List.length_range] at subm lz4
            rw [List.take_length] at subm
            have ddm := dd.sub subm
            have lym := subm.length_le
            have gm : Good ym := ddm.good (by omega)
            have go : Good yo := ddo.good (by omega)
            refine seq_step ?_
            walk_at "rq"
            refine ⟨_, ym, rfl, .self _, ddm, by omega, _, yo, rfl, .self _, ddo, by omega, ?_⟩
            have hk : ∀ l : List Sh, (kvOf (fun p : Sh => p.2.key) faceD l).map (fun p => keyT p.1) = (shK l).map Ky.d := fun l => keys_kv
            have tm := there_le ym
            have to := there_le yo
            have l1 : (shK (shown (there ym))).length = (there ym).length := by unfold shK; rw [List.length_map, shown_length]
            have l2 : (shK (shown (there yo))).length = (there yo).length := by unfold shK; rw [List.length_map, shown_length]
            have f1 : ∀ M, DicOf M (facesD ym) (kvOf (fun p : Sh => p.2.key) faceD (shown (there ym))) := fun M => faces_dic M ym
            have f2 : ∀ M, DicOf M (facesD yo) (kvOf (fun p : Sh => p.2.key) faceD (shown (there yo))) := fun M => faces_dic M yo
            have k1 : ∀ k, D.eqOk (optF (lookS (shown (there ym)) k)) := fun k => eqk_optF fun q hq => (shown_ok gm (lookS_mem hq).1).1
            have k2 : ∀ k, D.eqOk (optF (lookS (shown (there yo)) k)) := fun k => eqk_optF fun q hq => (shown_ok go (lookS_mem hq).1).1
            have lun := unionK_len (shown (there ym)) (shown (there yo))
            rw [shown_length, shown_length] at lun
            refine seq_step ?_
            walk_at "rq"
            refine ⟨_, f1 _, _, f2 _, ?_⟩
            rw [hk, hk]
            have le : ((shK (shown (there ym))).map Ky.d ++ (shK (shown (there yo))).map Ky.d).length < 64 := by rw [List.length_append, List.length_map, List.length_map]; omega
            have em : (shK (shown (there ym))).map Ky.d ++ (shK (shown (there yo))).map Ky.d = (shK (shown (there ym)) ++ shK (shown (there yo))).map Ky.d := List.map_append.symm
            refine ⟨sz _ (by rw [List.length_map, List.length_map]; omega), le, ?_, le, fun x hx => ?_, ?_, fun L nd hL => ?_⟩
            · rw [em]; exact setAll_keys _
            · rw [em] at hx
              obtain ⟨y, _, rfl⟩ := List.mem_map.mp hx
              exact ⟨eqk_key.1, by simp [D.deep, D.deepAll]⟩
            · rw [em]; exact sorts_keys _
            rw [em] at hL
            rw [srtK_of nd hL (unionK_nodup (there_keys gm) (there_keys go)) fun k => by rw [mem_unionK, List.mem_append]]
            rw [show (List.mergeSort (shK (shown (there ym)) ++ (shK (shown (there yo))).filter fun k => !(lookS (shown (there ym)) k).isSome) kle) = unionK (shown (there ym)) (shown (there yo)) from rfl]
            refine seq_step ?_
            walk_at "rq"
            refine lc_pure (unionK (shown (there ym)) (shown (there yo))) Ky.d (fun k => !D.eqb (optF (lookS (shown (there ym)) k)) (optF (lookS (shown (there yo)) k))) Ky.d (sz _ (by omega)) (fun Ψ h => ?_) (fun k hk' => ⟨_, rfl, fun Ψ h' => ?_, fun _ Φ' h' => ?_⟩) ?_
            · walk_at "rd"
              exact h _ trivial
            · walk_at "rd"
              refine ⟨⟨_, f1 _⟩, kk k, rfl, _, f1 _, ⟨_, f2 _⟩, kk k, rfl, _, f2 _, ?_⟩
              rw [face_get, face_get]
              exact ⟨_, .self _, _, .self _, k1 k, k2 k, h'⟩
            · walk_at "rd"
              exact h'
            refine seq_step ?_
            walk_at "rq"
            have eA : ym.map Dd.d ++ (ym.map Dd.d).take 2 = (ym ++ ym.take 2).map Dd.d := by rw [List.map_append, List.map_take]
            have gA : Good (ym ++ ym.take 2) := good_more gm (fun y hy => by
              rcases List.mem_append.mp hy with z | z
              · exact z
              · exact List.mem_of_mem_take z) (by rw [List.length_append, List.length_take]; omega)
            have tA : there (ym ++ ym.take 2) = there ym := there_eq (ordd_eq gA fun x => ⟨fun z => by
              rcases List.mem_append.mp z with z | z
              · exact z
              · exact List.mem_of_mem_take z, fun z => List.mem_append_left _ z⟩)
            refine ⟨sz _ (by rw [List.length_take, List.length_map]; omega), _, _, rfl, .self _, _, _, ym ++ ym.take 2, yo, rfl, by rw [eA]; exact .self _, .self _, gA, go, mt _, by rw [tA]; omega, ?_⟩
            rw [tA]
            refine lc_all ((unionK (shown (there ym)) (shown (there yo))).filter fun k => !D.eqb (optF (lookS (shown (there ym)) k)) (optF (lookS (shown (there yo)) k))) Ky.d (fun k => .tup [Ky.d k, optF (lookS (shown (there ym)) k), optF (lookS (shown (there yo)) k)]) (sz _ (Nat.le_trans (List.length_filter_le _ _) (by omega))) (fun Ψ h => ?_) (fun k hk' => ⟨_, rfl, fun Φ' h' => ?_⟩) ?_
            · walk_at "rd"
              exact h _ trivial
            · walk_at "rd"
              refine ⟨⟨_, f1 _⟩, kk k, rfl, _, f1 _, ⟨_, f2 _⟩, kk k, rfl, _, f2 _, ?_⟩
              rw [face_get, face_get]
              exact h'
            rw [← ap_filter]
            refine ⟨_, .self _, _, .self _, ap_ok gm go, ap_ok gm go, fun z => Bool.noConfusion (z.symm.trans eqb_self), fun _ => ?_⟩
            refine seq_step ?_
            walk_at "rq"
            refine ⟨_, xs, rfl, .self _, dd, by omega, ?_⟩
            refine seq_step ?_
            walk_at "rq"
            have lo : (ordd xs).length < 64 := g.ordd.few
            refine lc_pure (ordd xs) Dd.d (fun x => dicEqB (facesL (xs.filter fun y => !decide (y = x))) (facesL xs)) Dd.d (sz _ (by omega)) (fun Ψ h => ?_) (fun x hx => ⟨_, rfl, fun Ψ h' => ?_, fun _ Φ' h' => ?_⟩) ?_
            · walk_at "rd"
              refine ⟨_, _, rfl, .self _, sortOk_dd g, ?_⟩
              rw [sorted_all dd]
              exact ⟨_, .self _, h _ (.self _)⟩
            · walk_at "rd"
              refine lc_pure xs Dd.d (fun y => !decide (y = x)) Dd.d (sz _ (by omega)) (fun Ψ h => ?_) (fun y hy => ⟨_, rfl, fun Ψ h' => ?_, fun _ Φ' h' => ?_⟩) ?_
              · walk_at "rd"
                exact h _ trivial
              · walk_at "rd"
                refine ⟨_, .self _, _, .self _, eqk_dd (g.ok y hy), eqk_dd (g.ordd.ok x hx), ?_⟩
                rw [eqb_dd]
                exact h'
              · walk_at "rd"
                exact h'
              have dx : Deeds (xs.filter fun y => !decide (y = x)) := dd.sub List.filter_sublist
              have lx : (xs.filter fun y => !decide (y = x)).length < 64 := Nat.lt_of_le_of_lt (List.length_filter_le _ _) (by omega)
              exact ⟨_, _, rfl, .self _, dx, lx, _, _, faces_dic _ _, faces_dic _ _, faces_ok (dx.good lx), faces_ok g, _, rfl, h'⟩
            · walk_at "rd"
              exact h'
            have dueE : ∀ zs : List Dd, Good zs → ordd zs = ordd xs → ((ordd zs).filter fun x => dicEqB (facesL ((ordd zs).filter fun y => !decide (y = x))) (facesL (ordd zs))) = (ordd xs).filter fun x => dicEqB (facesL (xs.filter fun y => !decide (y = x))) (facesL xs) := fun zs gz ez => by
              rw [ez, faces_eq (ordd_ordd g)]
              refine List.filter_congr fun x hx => ?_
              rw [faces_eq (show ordd ((ordd xs).filter fun y => !decide (y = x)) = ordd (xs.filter fun y => !decide (y = x)) by
                rw [← ordd_filter g]
                exact ordd_ordd (g.sub (fun z hz => (List.mem_filter.mp hz).1) (List.length_filter_le _ _)))]
            walk_at "rd"
            rw [cut_t3, cut_d1]
            have eS : (xs.map Dd.d).reverse ++ (xs.map Dd.d).take 3 = (xs.reverse ++ xs.take 3).map Dd.d := by rw [List.map_append, List.map_take, List.map_reverse]
            have eB : xs.map Dd.d ++ (xs.map Dd.d).drop 1 = (xs ++ xs.drop 1).map Dd.d := by rw [List.map_append, List.map_drop]
            have eC : (xs.map Dd.d).reverse = xs.reverse.map Dd.d := List.map_reverse.symm
            have inS : ∀ x, x ∈ xs.reverse ++ xs.take 3 ↔ x ∈ xs := fun x => ⟨fun z => by
              rcases List.mem_append.mp z with z | z
              · exact List.mem_reverse.mp z
              · exact List.mem_of_mem_take z, fun z => List.mem_append_left _ (List.mem_reverse.mpr z)⟩
            have inB : ∀ x, x ∈ xs ++ xs.drop 1 ↔ x ∈ xs := fun x => ⟨fun z => by
              rcases List.mem_append.mp z with z | z
              · exact z
              · exact List.mem_of_mem_drop z, fun z => List.mem_append_left _ z⟩
            have gS : Good (xs.reverse ++ xs.take 3) := good_more g (fun y hy => (inS y).mp hy) (by rw [List.length_append, List.length_reverse, List.length_take]; omega)
            have gB : Good (xs ++ xs.drop 1) := good_more g (fun y hy => (inB y).mp hy) (by rw [List.length_append, List.length_drop]; omega)
            have gC : Good xs.reverse := good_rev g
            have oS := ordd_eq gS inS
            have tB : there (xs ++ xs.drop 1) = there xs := there_eq (ordd_eq gB inB)
            have tC : there xs.reverse = there xs := there_eq (ordd_rev g)
            have okd : D.eqOk (.lst (((ordd xs).filter fun x => dicEqB (facesL (xs.filter fun y => !decide (y = x))) (facesL xs)).map Dd.d)) := eqk_dds fun x hx => g.ok x (mem_ordd.mp (List.mem_filter.mp hx).1)
            rw [eS, eB, eC]
            refine ⟨sz _ (by rw [List.length_map, List.length_reverse, List.length_take, List.length_map]; omega), _, _, rfl, .self _, gS, mt _, ?_⟩
            rw [dueE _ gS oS]
            refine ⟨_, .self _, okd, okd, fun _ => ?_, fun z => Bool.noConfusion (z.symm.trans eqb_self)⟩
            refine ⟨sz _ (by rw [List.length_map, List.length_drop, List.length_map]; omega), _, _, xs ++ xs.drop 1, xs.reverse, rfl, .self _, .self _, gB, gC, mt _, by rw [tB, tC]; omega, ?_⟩
            rw [tB, tC, ap_self]
            refine ⟨_, .self _, eqk_nil, ?_⟩
            rw [eqb_self]
            exact Fin.pure (h _)
      · refine for_typed (["a", "b", "ab", "zzzz", "q"] : List Str) D.str (fun _ => True) (J_n ns t xs v4 (some (Ky.d gone)) (Tw [] M t (zs ++ [.int 0]))) (fun Ψ h => ?_) ⟨_, rfl, rfl⟩ (fun _ _ _ _ => trivial) ?_ ?_
        · walk_at "rd"
          exact h
        · rintro i n Γ' M' hn ⟨v6, rfl, rfl⟩
          have sn : PyData.strOk n = true := by
            have all : ∀ s, s ∈ (["a", "b", "ab", "zzzz", "q"] : List Str) → PyData.strOk s = true := by decide +kernel
            exact all n (List.mem_of_getElem? hn)
          refine ⟨_, rfl, ?_⟩
          simp only [Gn]
          walk_at "rd"
          refine ⟨_, _, rfl, .self _, _, xs, n, rfl, .self _, g, mt _, sn, ?_⟩
          refine lc_pure (there xs) ltup (fun r => decide (r.name = n)) (fun r => Ky.d r.key) (sz _ (by omega)) (fun Ψ h => ?_) (fun r hr => ⟨_, rfl, fun Ψ h' => ?_, fun _ Φ' h' => ?_⟩) ?_
          · walk_at "rd"
            exact h _ trivial
          · walk_at "rd"
            exact ⟨eqk_str (nameOk_str (there_ok g hr).2.1), eqk_str sn, h'⟩
          · walk_at "rd"
            exact h'
          rw [want_rows]
          exact ⟨_, .self _, _, .self _, eqk_keys _, eqk_keys _, fun z => Bool.noConfusion (z.symm.trans eqb_self), fun _ => ⟨_, rfl, rfl⟩⟩
        · rintro Γ' M' ⟨v6, rfl, rfl⟩
          exact hnx _ _ ⟨_, rfl, rfl⟩
    · refine for_typed (there xs) ltup (fun _ => True) (J_r ns t xs (Tw [] M t zs)) (fun Ψ h => ?_) ⟨_, rfl, rfl⟩ (fun _ _ _ _ => trivial) ?_ ?_
      · walk_at "rd"
        exact h
      · rintro i r Γ' M' hr ⟨v4, rfl, rfl⟩
        have mr := List.mem_of_getElem? hr
        refine ⟨_, rfl, ?_⟩
        simp only [Gn]
        walk_at "rd"
        exact ⟨_, _, rfl, .self _, _, xs, r.key, r, rfl, .self _, g, mt _, rowAt_of g mr, _, xs, r, rfl, .self _, dd, by omega, mr, _, .self _, _, .self _, why_ok g r, why_ok g r, fun z => Bool.noConfusion (z.symm.trans eqb_self), fun _ => ⟨_, rfl, rfl⟩⟩
      · rintro Γ' M' ⟨v4, rfl, rfl⟩
        exact hnx _ _ ⟨_, rfl, rfl⟩
end
end NF
namespace NF
open PySem L2
/-- the law is called: nothing is owned but the table -/
theorem start_at {K : PySem.W.Frag} {H : Hp} {a Pt : Addr} {ns : List Int} {E : XK} (hP : H Pt = some (.tbl #[])) (hS : SqL K H a (ns.map V.int)) : spOf K (sp_law Pt) [.ref a] H (fun v _ => v = .bl true) E := by
  let P0 : Hp := fun b => open Classical in if b = Pt then none else if b = a then H a else none
  have pt : P0 Pt = none := if_pos rfl
  have at_a : ∀ o, H a = some o → (∀ ps, o ≠ .tbl ps) → P0 a = some o := fun o e n => by
    have ne : a ≠ Pt := fun z => by rw [z, hP] at e; exact n _ (Option.some.inj e).symm
    show (if _ then _ else _) = _
    rw [if_neg ne, if_pos rfl, e]
  have sq : SqL K P0 a (ns.map V.int) := by
    rcases hS with (e | ⟨o, e⟩) | e
    · exact .inl (.inl (at_a _ e fun ps z => by cases z))
    · exact .inl (.inr ⟨o, at_a _ e fun ps z => by cases z⟩)
    · exact .inr e
  refine ⟨[.scr ns], [(Pt, MO.tab lamq)], P0, fun d _ => d = .bl true, .cons (.scr ns sq) .nil, ⟨fun b o e => .inl ?_, by simp [dom], fun b m hm => ?_⟩, ⟨ns, rfl, by simp, fun _ => rfl⟩, fun d M' e v P' H' g r => ?_⟩
  · have e' : (if b = Pt then none else if b = a then H a else none) = some o := e
    split at e'
    · cases e'
    · split at e'
      · rename_i z
        rw [z]
        exact e'
      · cases e'
  · have := List.mem_singleton.mp hm
    cases this
    exact ⟨pt, #[], hP, trivial, fun pos cv z => by cases z⟩
  · subst e
    cases r
    rfl
theorem all_mk {l : PySem.W.OpenLaw} {w : World} {K : PySem.W.Frag} {h : Heap} {mg : Str → Option Value} {fa : Addr} (X : K.In h) (G : h.Ns mainGlobals mg) (hfa : mg "law" = some (.ref fa))
    {f_is_name f_is_worth f_is_key f_is_deed f_look_deeds f_in_order f_Row___init__ f_all_rows f_there f_named f_row_there f_why f_wanting_of f_wanting f_faces f_apart f_silent f_law_cell f_law_mix f_law_draw f_law_pick f_law_refusal f_law_name f_law_deed f_law_deeds f_law_there f_law_shown f_law_one f_law_told f_law_faces f_law_why f_law Row FallError BadDeed NoRow Taken BadName BadNumber Nothing BadText SZ ct Pt : Addr}
    {od_is_name an_is_name : Option Addr} {sl_is_name : Array (Option Value)} {oc_is_name kV_is_name dc_is_name pm_is_name ct_is_name : Value}
    {cd_is_name : Value}
    {od_is_worth an_is_worth : Option Addr} {sl_is_worth : Array (Option Value)} {oc_is_worth kV_is_worth dc_is_worth pm_is_worth ct_is_worth : Value}
    {cd_is_worth : Value}
    {od_is_key an_is_key : Option Addr} {sl_is_key : Array (Option Value)} {oc_is_key kV_is_key dc_is_key pm_is_key ct_is_key : Value}
    {cd_is_key : Value}
    {od_is_deed an_is_deed : Option Addr} {sl_is_deed : Array (Option Value)} {oc_is_deed kV_is_deed dc_is_deed pm_is_deed ct_is_deed : Value}
    {cd_is_deed : Value}
    {od_look_deeds an_look_deeds : Option Addr} {sl_look_deeds : Array (Option Value)} {oc_look_deeds kV_look_deeds dc_look_deeds pm_look_deeds ct_look_deeds : Value}
    {cd_look_deeds : Value}
    {od_in_order an_in_order : Option Addr} {sl_in_order : Array (Option Value)} {oc_in_order kV_in_order dc_in_order pm_in_order ct_in_order : Value}
    {cd_in_order : Value}
    {od_Row___init__ an_Row___init__ : Option Addr} {sl_Row___init__ : Array (Option Value)} {oc_Row___init__ kV_Row___init__ dc_Row___init__ pm_Row___init__ ct_Row___init__ : Value}
    {cd_Row___init__ : Value}
    {od_all_rows an_all_rows : Option Addr} {sl_all_rows : Array (Option Value)} {oc_all_rows kV_all_rows dc_all_rows pm_all_rows ct_all_rows : Value}
    {cd_all_rows : Value}
    {od_there an_there : Option Addr} {sl_there : Array (Option Value)} {oc_there kV_there dc_there pm_there ct_there : Value}
    {od_named an_named : Option Addr} {sl_named : Array (Option Value)} {oc_named kV_named dc_named pm_named ct_named : Value}
    {cd_named : Value}
    {od_row_there an_row_there : Option Addr} {sl_row_there : Array (Option Value)} {oc_row_there kV_row_there dc_row_there pm_row_there ct_row_there : Value}
    {cd_row_there : Value}
    {od_why an_why : Option Addr} {sl_why : Array (Option Value)} {oc_why kV_why dc_why pm_why ct_why : Value}
    {cd_why : Value}
    {od_wanting_of an_wanting_of : Option Addr} {sl_wanting_of : Array (Option Value)} {oc_wanting_of kV_wanting_of dc_wanting_of pm_wanting_of ct_wanting_of : Value}
    {cd_wanting_of : Value}
    {od_wanting an_wanting : Option Addr} {sl_wanting : Array (Option Value)} {oc_wanting kV_wanting dc_wanting pm_wanting ct_wanting : Value}
    {cd_wanting : Value}
    {od_faces an_faces : Option Addr} {sl_faces : Array (Option Value)} {oc_faces kV_faces dc_faces pm_faces ct_faces : Value}
    {cd_faces : Value}
    {od_apart an_apart : Option Addr} {sl_apart : Array (Option Value)} {oc_apart kV_apart dc_apart pm_apart ct_apart : Value}
    {cd_apart : Value}
    {od_silent an_silent : Option Addr} {sl_silent : Array (Option Value)} {oc_silent kV_silent dc_silent pm_silent ct_silent : Value}
    {cd_silent : Value}
    {od_law_cell an_law_cell : Option Addr} {sl_law_cell : Array (Option Value)} {oc_law_cell kV_law_cell dc_law_cell pm_law_cell ct_law_cell : Value}
    {cd_law_cell : Value}
    {od_law_mix an_law_mix : Option Addr} {sl_law_mix : Array (Option Value)} {oc_law_mix kV_law_mix dc_law_mix pm_law_mix ct_law_mix : Value}
    {cd_law_mix : Value}
    {od_law_draw an_law_draw : Option Addr} {sl_law_draw : Array (Option Value)} {oc_law_draw kV_law_draw dc_law_draw pm_law_draw ct_law_draw : Value}
    {cd_law_draw : Value}
    {od_law_pick an_law_pick : Option Addr} {sl_law_pick : Array (Option Value)} {oc_law_pick kV_law_pick dc_law_pick pm_law_pick ct_law_pick : Value}
    {cd_law_pick : Value}
    {od_law_refusal an_law_refusal : Option Addr} {sl_law_refusal : Array (Option Value)} {oc_law_refusal kV_law_refusal dc_law_refusal pm_law_refusal ct_law_refusal : Value}
    {cd_law_refusal : Value}
    {od_law_name an_law_name : Option Addr} {sl_law_name : Array (Option Value)} {oc_law_name kV_law_name dc_law_name pm_law_name ct_law_name : Value}
    {cd_law_name : Value}
    {od_law_deed an_law_deed : Option Addr} {sl_law_deed : Array (Option Value)} {oc_law_deed kV_law_deed dc_law_deed pm_law_deed ct_law_deed : Value}
    {cd_law_deed : Value}
    {od_law_deeds an_law_deeds : Option Addr} {sl_law_deeds : Array (Option Value)} {oc_law_deeds kV_law_deeds dc_law_deeds pm_law_deeds ct_law_deeds : Value}
    {cd_law_deeds : Value}
    {od_law_there an_law_there : Option Addr} {sl_law_there : Array (Option Value)} {oc_law_there kV_law_there dc_law_there pm_law_there ct_law_there : Value}
    {cd_law_there : Value}
    {od_law_shown an_law_shown : Option Addr} {sl_law_shown : Array (Option Value)} {oc_law_shown kV_law_shown dc_law_shown pm_law_shown ct_law_shown : Value}
    {cd_law_shown : Value}
    {od_law_one an_law_one : Option Addr} {sl_law_one : Array (Option Value)} {oc_law_one kV_law_one dc_law_one pm_law_one ct_law_one : Value}
    {cd_law_one : Value}
    {od_law_told an_law_told : Option Addr} {sl_law_told : Array (Option Value)} {oc_law_told kV_law_told dc_law_told pm_law_told ct_law_told : Value}
    {cd_law_told : Value}
    {od_law_faces an_law_faces : Option Addr} {sl_law_faces : Array (Option Value)} {oc_law_faces kV_law_faces dc_law_faces pm_law_faces ct_law_faces : Value}
    {cd_law_faces : Value}
    {od_law_why an_law_why : Option Addr} {sl_law_why : Array (Option Value)} {oc_law_why kV_law_why dc_law_why pm_law_why ct_law_why : Value}
    {cd_law_why : Value}
    {od_law an_law : Option Addr} {sl_law : Array (Option Value)} {oc_law kV_law dc_law pm_law ct_law : Value}
    {cd_law : Value}
    {t_SMALL t_MOST_NAME t_MOST_WORTH t_MOST_STAMP t_MOST_HAND tk_new tk_name tk_worth tk_drop : Tok}
    (aC_Row : PySem.W.nsIn K mainGlobals "Row" = some (some (.ref Row)))
    (a_is_name : PySem.W.nsIn K mainGlobals "is_name" = some (some (.ref f_is_name)))
    (l_is_name : K.lookup f_is_name = some ⟨oc_is_name, od_is_name, .func (PySem.W.fnOf "is_name" "is_name" (defArgs s_is_name) (defBody s_is_name) (defScope s_is_name) .none kV_is_name dc_is_name pm_is_name an_is_name (cd_is_name) ct_is_name), sl_is_name⟩)
    (c_is_name : PySem.W.codeIn K cd_is_name "is_name" = true)
    (k_is_name : PySem.W.keepIn K (.ref f_is_name) = true)
    (a_is_worth : PySem.W.nsIn K mainGlobals "is_worth" = some (some (.ref f_is_worth)))
    (l_is_worth : K.lookup f_is_worth = some ⟨oc_is_worth, od_is_worth, .func (PySem.W.fnOf "is_worth" "is_worth" (defArgs s_is_worth) (defBody s_is_worth) (defScope s_is_worth) .none kV_is_worth dc_is_worth pm_is_worth an_is_worth (cd_is_worth) ct_is_worth), sl_is_worth⟩)
    (c_is_worth : PySem.W.codeIn K cd_is_worth "is_worth" = true)
    (k_is_worth : PySem.W.keepIn K (.ref f_is_worth) = true)
    (a_is_key : PySem.W.nsIn K mainGlobals "is_key" = some (some (.ref f_is_key)))
    (l_is_key : K.lookup f_is_key = some ⟨oc_is_key, od_is_key, .func (PySem.W.fnOf "is_key" "is_key" (defArgs s_is_key) (defBody s_is_key) (defScope s_is_key) .none kV_is_key dc_is_key pm_is_key an_is_key (cd_is_key) ct_is_key), sl_is_key⟩)
    (c_is_key : PySem.W.codeIn K cd_is_key "is_key" = true)
    (k_is_key : PySem.W.keepIn K (.ref f_is_key) = true)
    (a_is_deed : PySem.W.nsIn K mainGlobals "is_deed" = some (some (.ref f_is_deed)))
    (l_is_deed : K.lookup f_is_deed = some ⟨oc_is_deed, od_is_deed, .func (PySem.W.fnOf "is_deed" "is_deed" (defArgs s_is_deed) (defBody s_is_deed) (defScope s_is_deed) .none kV_is_deed dc_is_deed pm_is_deed an_is_deed (cd_is_deed) ct_is_deed), sl_is_deed⟩)
    (c_is_deed : PySem.W.codeIn K cd_is_deed "is_deed" = true)
    (k_is_deed : PySem.W.keepIn K (.ref f_is_deed) = true)
    (a_look_deeds : PySem.W.nsIn K mainGlobals "look_deeds" = some (some (.ref f_look_deeds)))
    (l_look_deeds : K.lookup f_look_deeds = some ⟨oc_look_deeds, od_look_deeds, .func (PySem.W.fnOf "look_deeds" "look_deeds" (defArgs s_look_deeds) (defBody s_look_deeds) (defScope s_look_deeds) .none kV_look_deeds dc_look_deeds pm_look_deeds an_look_deeds (cd_look_deeds) ct_look_deeds), sl_look_deeds⟩)
    (c_look_deeds : PySem.W.codeIn K cd_look_deeds "look_deeds" = true)
    (k_look_deeds : PySem.W.keepIn K (.ref f_look_deeds) = true)
    (a_in_order : PySem.W.nsIn K mainGlobals "in_order" = some (some (.ref f_in_order)))
    (l_in_order : K.lookup f_in_order = some ⟨oc_in_order, od_in_order, .func (PySem.W.fnOf "in_order" "in_order" (defArgs s_in_order) (defBody s_in_order) (defScope s_in_order) .none kV_in_order dc_in_order pm_in_order an_in_order (cd_in_order) ct_in_order), sl_in_order⟩)
    (c_in_order : PySem.W.codeIn K cd_in_order "in_order" = true)
    (k_in_order : PySem.W.keepIn K (.ref f_in_order) = true)
    (a_Row___init__ : PySem.W.findIn K (.ref Row) "__init__" = some (some (.ref f_Row___init__)))
    (i_Row___init__ : PySem.W.isFn K (.ref f_Row___init__) = true)
    (l_Row___init__ : K.lookup f_Row___init__ = some ⟨oc_Row___init__, od_Row___init__, .func (PySem.W.fnOf "__init__" "Row.__init__" (defArgs s_Row___init__) (defBody s_Row___init__) (defScope s_Row___init__) .none kV_Row___init__ dc_Row___init__ pm_Row___init__ an_Row___init__ (cd_Row___init__) ct_Row___init__), sl_Row___init__⟩)
    (c_Row___init__ : PySem.W.codeIn K cd_Row___init__ "Row.__init__" = true)
    (k_Row___init__ : PySem.W.keepIn K (.ref f_Row___init__) = true)
    (a_all_rows : PySem.W.nsIn K mainGlobals "all_rows" = some (some (.ref f_all_rows)))
    (l_all_rows : K.lookup f_all_rows = some ⟨oc_all_rows, od_all_rows, .func (PySem.W.fnOf "all_rows" "all_rows" (defArgs s_all_rows) (defBody s_all_rows) (defScope s_all_rows) .none kV_all_rows dc_all_rows pm_all_rows an_all_rows (cd_all_rows) ct_all_rows), sl_all_rows⟩)
    (c_all_rows : PySem.W.codeIn K cd_all_rows "all_rows" = true)
    (k_all_rows : PySem.W.keepIn K (.ref f_all_rows) = true)
    (a_there : PySem.W.nsIn K mainGlobals "there" = some (some (.ref f_there)))
    (l_there : K.lookup f_there = some ⟨oc_there, od_there, .func (PySem.W.fnOf "there" "there" (defArgs s_there) (defBody s_there) (defScope s_there) .none kV_there dc_there pm_there an_there (.ref ct) ct_there), sl_there⟩)
    (c_there : PySem.W.codeIn K (.ref ct) "there" = true)
    (k_there : PySem.W.keepIn K (.ref f_there) = true)
    (a_named : PySem.W.nsIn K mainGlobals "named" = some (some (.ref f_named)))
    (l_named : K.lookup f_named = some ⟨oc_named, od_named, .func (PySem.W.fnOf "named" "named" (defArgs s_named) (defBody s_named) (defScope s_named) .none kV_named dc_named pm_named an_named (cd_named) ct_named), sl_named⟩)
    (c_named : PySem.W.codeIn K cd_named "named" = true)
    (k_named : PySem.W.keepIn K (.ref f_named) = true)
    (a_row_there : PySem.W.nsIn K mainGlobals "row_there" = some (some (.ref f_row_there)))
    (l_row_there : K.lookup f_row_there = some ⟨oc_row_there, od_row_there, .func (PySem.W.fnOf "row_there" "row_there" (defArgs s_row_there) (defBody s_row_there) (defScope s_row_there) .none kV_row_there dc_row_there pm_row_there an_row_there (cd_row_there) ct_row_there), sl_row_there⟩)
    (c_row_there : PySem.W.codeIn K cd_row_there "row_there" = true)
    (k_row_there : PySem.W.keepIn K (.ref f_row_there) = true)
    (a_why : PySem.W.nsIn K mainGlobals "why" = some (some (.ref f_why)))
    (l_why : K.lookup f_why = some ⟨oc_why, od_why, .func (PySem.W.fnOf "why" "why" (defArgs s_why) (defBody s_why) (defScope s_why) .none kV_why dc_why pm_why an_why (cd_why) ct_why), sl_why⟩)
    (c_why : PySem.W.codeIn K cd_why "why" = true)
    (k_why : PySem.W.keepIn K (.ref f_why) = true)
    (a_wanting_of : PySem.W.nsIn K mainGlobals "wanting_of" = some (some (.ref f_wanting_of)))
    (l_wanting_of : K.lookup f_wanting_of = some ⟨oc_wanting_of, od_wanting_of, .func (PySem.W.fnOf "wanting_of" "wanting_of" (defArgs s_wanting_of) (defBody s_wanting_of) (defScope s_wanting_of) .none kV_wanting_of dc_wanting_of pm_wanting_of an_wanting_of (cd_wanting_of) ct_wanting_of), sl_wanting_of⟩)
    (c_wanting_of : PySem.W.codeIn K cd_wanting_of "wanting_of" = true)
    (k_wanting_of : PySem.W.keepIn K (.ref f_wanting_of) = true)
    (a_wanting : PySem.W.nsIn K mainGlobals "wanting" = some (some (.ref f_wanting)))
    (l_wanting : K.lookup f_wanting = some ⟨oc_wanting, od_wanting, .func (PySem.W.fnOf "wanting" "wanting" (defArgs s_wanting) (defBody s_wanting) (defScope s_wanting) .none kV_wanting dc_wanting pm_wanting an_wanting (cd_wanting) ct_wanting), sl_wanting⟩)
    (c_wanting : PySem.W.codeIn K cd_wanting "wanting" = true)
    (k_wanting : PySem.W.keepIn K (.ref f_wanting) = true)
    (a_faces : PySem.W.nsIn K mainGlobals "faces" = some (some (.ref f_faces)))
    (l_faces : K.lookup f_faces = some ⟨oc_faces, od_faces, .func (PySem.W.fnOf "faces" "faces" (defArgs s_faces) (defBody s_faces) (defScope s_faces) .none kV_faces dc_faces pm_faces an_faces (cd_faces) ct_faces), sl_faces⟩)
    (c_faces : PySem.W.codeIn K cd_faces "faces" = true)
    (k_faces : PySem.W.keepIn K (.ref f_faces) = true)
    (a_apart : PySem.W.nsIn K mainGlobals "apart" = some (some (.ref f_apart)))
    (l_apart : K.lookup f_apart = some ⟨oc_apart, od_apart, .func (PySem.W.fnOf "apart" "apart" (defArgs s_apart) (defBody s_apart) (defScope s_apart) .none kV_apart dc_apart pm_apart an_apart (cd_apart) ct_apart), sl_apart⟩)
    (c_apart : PySem.W.codeIn K cd_apart "apart" = true)
    (k_apart : PySem.W.keepIn K (.ref f_apart) = true)
    (a_silent : PySem.W.nsIn K mainGlobals "silent" = some (some (.ref f_silent)))
    (l_silent : K.lookup f_silent = some ⟨oc_silent, od_silent, .func (PySem.W.fnOf "silent" "silent" (defArgs s_silent) (defBody s_silent) (defScope s_silent) .none kV_silent dc_silent pm_silent an_silent (cd_silent) ct_silent), sl_silent⟩)
    (c_silent : PySem.W.codeIn K cd_silent "silent" = true)
    (k_silent : PySem.W.keepIn K (.ref f_silent) = true)
    (a_law_cell : PySem.W.nsIn K mainGlobals "_law_cell" = some (some (.ref f_law_cell)))
    (l_law_cell : K.lookup f_law_cell = some ⟨oc_law_cell, od_law_cell, .func (PySem.W.fnOf "_law_cell" "_law_cell" (defArgs s_law_cell) (defBody s_law_cell) (defScope s_law_cell) .none kV_law_cell dc_law_cell pm_law_cell an_law_cell (cd_law_cell) ct_law_cell), sl_law_cell⟩)
    (c_law_cell : PySem.W.codeIn K cd_law_cell "_law_cell" = true)
    (k_law_cell : PySem.W.keepIn K (.ref f_law_cell) = true)
    (a_law_mix : PySem.W.nsIn K mainGlobals "_law_mix" = some (some (.ref f_law_mix)))
    (l_law_mix : K.lookup f_law_mix = some ⟨oc_law_mix, od_law_mix, .func (PySem.W.fnOf "_law_mix" "_law_mix" (defArgs s_law_mix) (defBody s_law_mix) (defScope s_law_mix) .none kV_law_mix dc_law_mix pm_law_mix an_law_mix (cd_law_mix) ct_law_mix), sl_law_mix⟩)
    (c_law_mix : PySem.W.codeIn K cd_law_mix "_law_mix" = true)
    (k_law_mix : PySem.W.keepIn K (.ref f_law_mix) = true)
    (a_law_draw : PySem.W.nsIn K mainGlobals "_law_draw" = some (some (.ref f_law_draw)))
    (l_law_draw : K.lookup f_law_draw = some ⟨oc_law_draw, od_law_draw, .func (PySem.W.fnOf "_law_draw" "_law_draw" (defArgs s_law_draw) (defBody s_law_draw) (defScope s_law_draw) .none kV_law_draw dc_law_draw pm_law_draw an_law_draw (cd_law_draw) ct_law_draw), sl_law_draw⟩)
    (c_law_draw : PySem.W.codeIn K cd_law_draw "_law_draw" = true)
    (k_law_draw : PySem.W.keepIn K (.ref f_law_draw) = true)
    (a_law_pick : PySem.W.nsIn K mainGlobals "_law_pick" = some (some (.ref f_law_pick)))
    (l_law_pick : K.lookup f_law_pick = some ⟨oc_law_pick, od_law_pick, .func (PySem.W.fnOf "_law_pick" "_law_pick" (defArgs s_law_pick) (defBody s_law_pick) (defScope s_law_pick) .none kV_law_pick dc_law_pick pm_law_pick an_law_pick (cd_law_pick) ct_law_pick), sl_law_pick⟩)
    (c_law_pick : PySem.W.codeIn K cd_law_pick "_law_pick" = true)
    (k_law_pick : PySem.W.keepIn K (.ref f_law_pick) = true)
    (a_law_refusal : PySem.W.nsIn K mainGlobals "_law_refusal" = some (some (.ref f_law_refusal)))
    (l_law_refusal : K.lookup f_law_refusal = some ⟨oc_law_refusal, od_law_refusal, .func (PySem.W.fnOf "_law_refusal" "_law_refusal" (defArgs s_law_refusal) (defBody s_law_refusal) (defScope s_law_refusal) .none kV_law_refusal dc_law_refusal pm_law_refusal an_law_refusal (cd_law_refusal) ct_law_refusal), sl_law_refusal⟩)
    (c_law_refusal : PySem.W.codeIn K cd_law_refusal "_law_refusal" = true)
    (k_law_refusal : PySem.W.keepIn K (.ref f_law_refusal) = true)
    (a_law_name : PySem.W.nsIn K mainGlobals "_law_name" = some (some (.ref f_law_name)))
    (l_law_name : K.lookup f_law_name = some ⟨oc_law_name, od_law_name, .func (PySem.W.fnOf "_law_name" "_law_name" (defArgs s_law_name) (defBody s_law_name) (defScope s_law_name) .none kV_law_name dc_law_name pm_law_name an_law_name (cd_law_name) ct_law_name), sl_law_name⟩)
    (c_law_name : PySem.W.codeIn K cd_law_name "_law_name" = true)
    (k_law_name : PySem.W.keepIn K (.ref f_law_name) = true)
    (a_law_deed : PySem.W.nsIn K mainGlobals "_law_deed" = some (some (.ref f_law_deed)))
    (l_law_deed : K.lookup f_law_deed = some ⟨oc_law_deed, od_law_deed, .func (PySem.W.fnOf "_law_deed" "_law_deed" (defArgs s_law_deed) (defBody s_law_deed) (defScope s_law_deed) .none kV_law_deed dc_law_deed pm_law_deed an_law_deed (cd_law_deed) ct_law_deed), sl_law_deed⟩)
    (c_law_deed : PySem.W.codeIn K cd_law_deed "_law_deed" = true)
    (k_law_deed : PySem.W.keepIn K (.ref f_law_deed) = true)
    (a_law_deeds : PySem.W.nsIn K mainGlobals "_law_deeds" = some (some (.ref f_law_deeds)))
    (l_law_deeds : K.lookup f_law_deeds = some ⟨oc_law_deeds, od_law_deeds, .func (PySem.W.fnOf "_law_deeds" "_law_deeds" (defArgs s_law_deeds) (defBody s_law_deeds) (defScope s_law_deeds) .none kV_law_deeds dc_law_deeds pm_law_deeds an_law_deeds (cd_law_deeds) ct_law_deeds), sl_law_deeds⟩)
    (c_law_deeds : PySem.W.codeIn K cd_law_deeds "_law_deeds" = true)
    (k_law_deeds : PySem.W.keepIn K (.ref f_law_deeds) = true)
    (a_law_there : PySem.W.nsIn K mainGlobals "_law_there" = some (some (.ref f_law_there)))
    (l_law_there : K.lookup f_law_there = some ⟨oc_law_there, od_law_there, .func (PySem.W.fnOf "_law_there" "_law_there" (defArgs s_law_there) (defBody s_law_there) (defScope s_law_there) .none kV_law_there dc_law_there pm_law_there an_law_there (cd_law_there) ct_law_there), sl_law_there⟩)
    (c_law_there : PySem.W.codeIn K cd_law_there "_law_there" = true)
    (k_law_there : PySem.W.keepIn K (.ref f_law_there) = true)
    (a_law_shown : PySem.W.nsIn K mainGlobals "_law_shown" = some (some (.ref f_law_shown)))
    (l_law_shown : K.lookup f_law_shown = some ⟨oc_law_shown, od_law_shown, .func (PySem.W.fnOf "_law_shown" "_law_shown" (defArgs s_law_shown) (defBody s_law_shown) (defScope s_law_shown) .none kV_law_shown dc_law_shown pm_law_shown an_law_shown (cd_law_shown) ct_law_shown), sl_law_shown⟩)
    (c_law_shown : PySem.W.codeIn K cd_law_shown "_law_shown" = true)
    (k_law_shown : PySem.W.keepIn K (.ref f_law_shown) = true)
    (a_law_one : PySem.W.nsIn K mainGlobals "_law_one" = some (some (.ref f_law_one)))
    (l_law_one : K.lookup f_law_one = some ⟨oc_law_one, od_law_one, .func (PySem.W.fnOf "_law_one" "_law_one" (defArgs s_law_one) (defBody s_law_one) (defScope s_law_one) .none kV_law_one dc_law_one pm_law_one an_law_one (cd_law_one) ct_law_one), sl_law_one⟩)
    (c_law_one : PySem.W.codeIn K cd_law_one "_law_one" = true)
    (k_law_one : PySem.W.keepIn K (.ref f_law_one) = true)
    (a_law_told : PySem.W.nsIn K mainGlobals "_law_told" = some (some (.ref f_law_told)))
    (l_law_told : K.lookup f_law_told = some ⟨oc_law_told, od_law_told, .func (PySem.W.fnOf "_law_told" "_law_told" (defArgs s_law_told) (defBody s_law_told) (defScope s_law_told) .none kV_law_told dc_law_told pm_law_told an_law_told (cd_law_told) ct_law_told), sl_law_told⟩)
    (c_law_told : PySem.W.codeIn K cd_law_told "_law_told" = true)
    (k_law_told : PySem.W.keepIn K (.ref f_law_told) = true)
    (a_law_faces : PySem.W.nsIn K mainGlobals "_law_faces" = some (some (.ref f_law_faces)))
    (l_law_faces : K.lookup f_law_faces = some ⟨oc_law_faces, od_law_faces, .func (PySem.W.fnOf "_law_faces" "_law_faces" (defArgs s_law_faces) (defBody s_law_faces) (defScope s_law_faces) .none kV_law_faces dc_law_faces pm_law_faces an_law_faces (cd_law_faces) ct_law_faces), sl_law_faces⟩)
    (c_law_faces : PySem.W.codeIn K cd_law_faces "_law_faces" = true)
    (k_law_faces : PySem.W.keepIn K (.ref f_law_faces) = true)
    (a_law_why : PySem.W.nsIn K mainGlobals "_law_why" = some (some (.ref f_law_why)))
    (l_law_why : K.lookup f_law_why = some ⟨oc_law_why, od_law_why, .func (PySem.W.fnOf "_law_why" "_law_why" (defArgs s_law_why) (defBody s_law_why) (defScope s_law_why) .none kV_law_why dc_law_why pm_law_why an_law_why (cd_law_why) ct_law_why), sl_law_why⟩)
    (c_law_why : PySem.W.codeIn K cd_law_why "_law_why" = true)
    (k_law_why : PySem.W.keepIn K (.ref f_law_why) = true)
    (a_law : PySem.W.nsIn K mainGlobals "law" = some (some (.ref f_law)))
    (l_law : K.lookup f_law = some ⟨oc_law, od_law, .func (PySem.W.fnOf "law" "law" (defArgs s_law) (defBody s_law) (defScope s_law) .none kV_law dc_law pm_law an_law (cd_law) ct_law), sl_law⟩)
    (c_law : PySem.W.codeIn K cd_law "law" = true)
    (k_law : PySem.W.keepIn K (.ref f_law) = true)
    (q_SMALL : PySem.W.nsIn K mainGlobals "SMALL" = some (some (.str "abcdefghijklmnopqrstuvwxyz" t_SMALL)))
    (q_MOST_NAME : PySem.W.nsIn K mainGlobals "MOST_NAME" = some (some (.int 4 t_MOST_NAME)))
    (q_MOST_WORTH : PySem.W.nsIn K mainGlobals "MOST_WORTH" = some (some (.int 99 t_MOST_WORTH)))
    (q_MOST_STAMP : PySem.W.nsIn K mainGlobals "MOST_STAMP" = some (some (.int 999 t_MOST_STAMP)))
    (q_MOST_HAND : PySem.W.nsIn K mainGlobals "MOST_HAND" = some (some (.int 5 t_MOST_HAND)))
    (pg_Row : PySem.W.plainGet K Row Str.empty = true)
    (hd_Row : PySem.W.hasDictIn K Row = true)
    (po_Row : PySem.W.plainOver K Row = true)
    (sa_Row : PySem.W.findIn K (.ref Row) "__setattr__" = some (some (.builtin "object.__setattr__")))
    (mk_Row : PySem.W.makesIn K Row = true)
    (kc_Row : PySem.W.keepIn K (.ref Row) = true)
    (n_Row_key : PySem.W.findIn K (.ref Row) "key" = some none)
    (n_Row_name : PySem.W.findIn K (.ref Row) "name" = some none)
    (n_Row_since : PySem.W.findIn K (.ref Row) "since" = some none)
    (n_Row_worth : PySem.W.findIn K (.ref Row) "worth" = some none)
    (n_Row_is_dropped : PySem.W.findIn K (.ref Row) "is_dropped" = some none)
    (xg_FallError : PySem.W.nsIn K mainGlobals "FallError" = some (some (.ref FallError)))
    (xe_FallError : PySem.W.excIn K FallError [.type "ValueError", .type "Exception", .type "BaseException", .type "object"] "ValueError.__new__" = true)
    (xk_FallError : PySem.W.keepIn K (.ref FallError) = true)
    (xb_FallError : PySem.W.subIn K (.ref FallError) (.type "BaseException") = some true)
    (xt_FallError : PySem.W.typeIn K (.ref FallError) = some (.type "type"))
    (xg_BadDeed : PySem.W.nsIn K mainGlobals "BadDeed" = some (some (.ref BadDeed)))
    (xe_BadDeed : PySem.W.excIn K BadDeed [.type "ValueError", .type "Exception", .type "BaseException", .type "object"] "ValueError.__new__" = true)
    (xk_BadDeed : PySem.W.keepIn K (.ref BadDeed) = true)
    (xb_BadDeed : PySem.W.subIn K (.ref BadDeed) (.type "BaseException") = some true)
    (xt_BadDeed : PySem.W.typeIn K (.ref BadDeed) = some (.type "type"))
    (xg_NoRow : PySem.W.nsIn K mainGlobals "NoRow" = some (some (.ref NoRow)))
    (xe_NoRow : PySem.W.excIn K NoRow [.type "ValueError", .type "Exception", .type "BaseException", .type "object"] "ValueError.__new__" = true)
    (xk_NoRow : PySem.W.keepIn K (.ref NoRow) = true)
    (xb_NoRow : PySem.W.subIn K (.ref NoRow) (.type "BaseException") = some true)
    (xt_NoRow : PySem.W.typeIn K (.ref NoRow) = some (.type "type"))
    (xg_Taken : PySem.W.nsIn K mainGlobals "Taken" = some (some (.ref Taken)))
    (xe_Taken : PySem.W.excIn K Taken [.type "ValueError", .type "Exception", .type "BaseException", .type "object"] "ValueError.__new__" = true)
    (xk_Taken : PySem.W.keepIn K (.ref Taken) = true)
    (xb_Taken : PySem.W.subIn K (.ref Taken) (.type "BaseException") = some true)
    (xt_Taken : PySem.W.typeIn K (.ref Taken) = some (.type "type"))
    (xg_BadName : PySem.W.nsIn K mainGlobals "BadName" = some (some (.ref BadName)))
    (xe_BadName : PySem.W.excIn K BadName [.type "ValueError", .type "Exception", .type "BaseException", .type "object"] "ValueError.__new__" = true)
    (xk_BadName : PySem.W.keepIn K (.ref BadName) = true)
    (xb_BadName : PySem.W.subIn K (.ref BadName) (.type "BaseException") = some true)
    (xt_BadName : PySem.W.typeIn K (.ref BadName) = some (.type "type"))
    (xg_BadNumber : PySem.W.nsIn K mainGlobals "BadNumber" = some (some (.ref BadNumber)))
    (xe_BadNumber : PySem.W.excIn K BadNumber [.type "ValueError", .type "Exception", .type "BaseException", .type "object"] "ValueError.__new__" = true)
    (xk_BadNumber : PySem.W.keepIn K (.ref BadNumber) = true)
    (xb_BadNumber : PySem.W.subIn K (.ref BadNumber) (.type "BaseException") = some true)
    (xt_BadNumber : PySem.W.typeIn K (.ref BadNumber) = some (.type "type"))
    (xg_Nothing : PySem.W.nsIn K mainGlobals "Nothing" = some (some (.ref Nothing)))
    (xe_Nothing : PySem.W.excIn K Nothing [.type "ValueError", .type "Exception", .type "BaseException", .type "object"] "ValueError.__new__" = true)
    (xk_Nothing : PySem.W.keepIn K (.ref Nothing) = true)
    (xb_Nothing : PySem.W.subIn K (.ref Nothing) (.type "BaseException") = some true)
    (xt_Nothing : PySem.W.typeIn K (.ref Nothing) = some (.type "type"))
    (xg_BadText : PySem.W.nsIn K mainGlobals "BadText" = some (some (.ref BadText)))
    (xe_BadText : PySem.W.excIn K BadText [.type "ValueError", .type "Exception", .type "BaseException", .type "object"] "ValueError.__new__" = true)
    (xk_BadText : PySem.W.keepIn K (.ref BadText) = true)
    (xb_BadText : PySem.W.subIn K (.ref BadText) (.type "BaseException") = some true)
    (xt_BadText : PySem.W.typeIn K (.ref BadText) = some (.type "type"))
    (xd_FallError : PySem.W.hasDictIn K FallError = true)
    (xs_BadDeed : PySem.W.subIn K (.ref BadDeed) (.ref FallError) = some true)
    (x1_BadDeed : PySem.W.findIn K (.ref BadDeed) "__getattribute__" = some (some (.builtin "BaseException.__getattribute__")))
    (x2_BadDeed : PySem.W.findIn K (.ref BadDeed) "__getattr__" = some none)
    (x4_BadDeed : PySem.W.hasDictIn K BadDeed = true)
    (x5_BadDeed : PySem.W.findIn K (.ref BadDeed) "__class__" = some (some (.builtin "object.__class__")))
    (x8_BadDeed : PySem.W.mroIn K BadDeed (.type "object") = some true)
    (y_BadDeed_BadDeed : PySem.W.kitOne K (.ref BadDeed) (.ref BadDeed) = some true)
    (y_BadDeed_NoRow : PySem.W.kitOne K (.ref BadDeed) (.ref NoRow) = some false)
    (y_BadDeed_Taken : PySem.W.kitOne K (.ref BadDeed) (.ref Taken) = some false)
    (y_BadDeed_BadName : PySem.W.kitOne K (.ref BadDeed) (.ref BadName) = some false)
    (y_BadDeed_BadNumber : PySem.W.kitOne K (.ref BadDeed) (.ref BadNumber) = some false)
    (y_BadDeed_Nothing : PySem.W.kitOne K (.ref BadDeed) (.ref Nothing) = some false)
    (y_BadDeed_BadText : PySem.W.kitOne K (.ref BadDeed) (.ref BadText) = some false)
    (yv_BadDeed : PySem.W.kitOne K (.ref BadDeed) (.type "ValueError") = some true)
    (xs_NoRow : PySem.W.subIn K (.ref NoRow) (.ref FallError) = some true)
    (x1_NoRow : PySem.W.findIn K (.ref NoRow) "__getattribute__" = some (some (.builtin "BaseException.__getattribute__")))
    (x2_NoRow : PySem.W.findIn K (.ref NoRow) "__getattr__" = some none)
    (x4_NoRow : PySem.W.hasDictIn K NoRow = true)
    (x5_NoRow : PySem.W.findIn K (.ref NoRow) "__class__" = some (some (.builtin "object.__class__")))
    (x8_NoRow : PySem.W.mroIn K NoRow (.type "object") = some true)
    (y_NoRow_BadDeed : PySem.W.kitOne K (.ref NoRow) (.ref BadDeed) = some false)
    (y_NoRow_NoRow : PySem.W.kitOne K (.ref NoRow) (.ref NoRow) = some true)
    (y_NoRow_Taken : PySem.W.kitOne K (.ref NoRow) (.ref Taken) = some false)
    (y_NoRow_BadName : PySem.W.kitOne K (.ref NoRow) (.ref BadName) = some false)
    (y_NoRow_BadNumber : PySem.W.kitOne K (.ref NoRow) (.ref BadNumber) = some false)
    (y_NoRow_Nothing : PySem.W.kitOne K (.ref NoRow) (.ref Nothing) = some false)
    (y_NoRow_BadText : PySem.W.kitOne K (.ref NoRow) (.ref BadText) = some false)
    (yv_NoRow : PySem.W.kitOne K (.ref NoRow) (.type "ValueError") = some true)
    (xs_Taken : PySem.W.subIn K (.ref Taken) (.ref FallError) = some true)
    (x1_Taken : PySem.W.findIn K (.ref Taken) "__getattribute__" = some (some (.builtin "BaseException.__getattribute__")))
    (x2_Taken : PySem.W.findIn K (.ref Taken) "__getattr__" = some none)
    (x4_Taken : PySem.W.hasDictIn K Taken = true)
    (x5_Taken : PySem.W.findIn K (.ref Taken) "__class__" = some (some (.builtin "object.__class__")))
    (x8_Taken : PySem.W.mroIn K Taken (.type "object") = some true)
    (y_Taken_BadDeed : PySem.W.kitOne K (.ref Taken) (.ref BadDeed) = some false)
    (y_Taken_NoRow : PySem.W.kitOne K (.ref Taken) (.ref NoRow) = some false)
    (y_Taken_Taken : PySem.W.kitOne K (.ref Taken) (.ref Taken) = some true)
    (y_Taken_BadName : PySem.W.kitOne K (.ref Taken) (.ref BadName) = some false)
    (y_Taken_BadNumber : PySem.W.kitOne K (.ref Taken) (.ref BadNumber) = some false)
    (y_Taken_Nothing : PySem.W.kitOne K (.ref Taken) (.ref Nothing) = some false)
    (y_Taken_BadText : PySem.W.kitOne K (.ref Taken) (.ref BadText) = some false)
    (yv_Taken : PySem.W.kitOne K (.ref Taken) (.type "ValueError") = some true)
    (xs_BadName : PySem.W.subIn K (.ref BadName) (.ref FallError) = some true)
    (x1_BadName : PySem.W.findIn K (.ref BadName) "__getattribute__" = some (some (.builtin "BaseException.__getattribute__")))
    (x2_BadName : PySem.W.findIn K (.ref BadName) "__getattr__" = some none)
    (x4_BadName : PySem.W.hasDictIn K BadName = true)
    (x5_BadName : PySem.W.findIn K (.ref BadName) "__class__" = some (some (.builtin "object.__class__")))
    (x8_BadName : PySem.W.mroIn K BadName (.type "object") = some true)
    (y_BadName_BadDeed : PySem.W.kitOne K (.ref BadName) (.ref BadDeed) = some false)
    (y_BadName_NoRow : PySem.W.kitOne K (.ref BadName) (.ref NoRow) = some false)
    (y_BadName_Taken : PySem.W.kitOne K (.ref BadName) (.ref Taken) = some false)
    (y_BadName_BadName : PySem.W.kitOne K (.ref BadName) (.ref BadName) = some true)
    (y_BadName_BadNumber : PySem.W.kitOne K (.ref BadName) (.ref BadNumber) = some false)
    (y_BadName_Nothing : PySem.W.kitOne K (.ref BadName) (.ref Nothing) = some false)
    (y_BadName_BadText : PySem.W.kitOne K (.ref BadName) (.ref BadText) = some false)
    (yv_BadName : PySem.W.kitOne K (.ref BadName) (.type "ValueError") = some true)
    (xs_BadNumber : PySem.W.subIn K (.ref BadNumber) (.ref FallError) = some true)
    (x1_BadNumber : PySem.W.findIn K (.ref BadNumber) "__getattribute__" = some (some (.builtin "BaseException.__getattribute__")))
    (x2_BadNumber : PySem.W.findIn K (.ref BadNumber) "__getattr__" = some none)
    (x4_BadNumber : PySem.W.hasDictIn K BadNumber = true)
    (x5_BadNumber : PySem.W.findIn K (.ref BadNumber) "__class__" = some (some (.builtin "object.__class__")))
    (x8_BadNumber : PySem.W.mroIn K BadNumber (.type "object") = some true)
    (y_BadNumber_BadDeed : PySem.W.kitOne K (.ref BadNumber) (.ref BadDeed) = some false)
    (y_BadNumber_NoRow : PySem.W.kitOne K (.ref BadNumber) (.ref NoRow) = some false)
    (y_BadNumber_Taken : PySem.W.kitOne K (.ref BadNumber) (.ref Taken) = some false)
    (y_BadNumber_BadName : PySem.W.kitOne K (.ref BadNumber) (.ref BadName) = some false)
    (y_BadNumber_BadNumber : PySem.W.kitOne K (.ref BadNumber) (.ref BadNumber) = some true)
    (y_BadNumber_Nothing : PySem.W.kitOne K (.ref BadNumber) (.ref Nothing) = some false)
    (y_BadNumber_BadText : PySem.W.kitOne K (.ref BadNumber) (.ref BadText) = some false)
    (yv_BadNumber : PySem.W.kitOne K (.ref BadNumber) (.type "ValueError") = some true)
    (xs_Nothing : PySem.W.subIn K (.ref Nothing) (.ref FallError) = some true)
    (x1_Nothing : PySem.W.findIn K (.ref Nothing) "__getattribute__" = some (some (.builtin "BaseException.__getattribute__")))
    (x2_Nothing : PySem.W.findIn K (.ref Nothing) "__getattr__" = some none)
    (x4_Nothing : PySem.W.hasDictIn K Nothing = true)
    (x5_Nothing : PySem.W.findIn K (.ref Nothing) "__class__" = some (some (.builtin "object.__class__")))
    (x8_Nothing : PySem.W.mroIn K Nothing (.type "object") = some true)
    (y_Nothing_BadDeed : PySem.W.kitOne K (.ref Nothing) (.ref BadDeed) = some false)
    (y_Nothing_NoRow : PySem.W.kitOne K (.ref Nothing) (.ref NoRow) = some false)
    (y_Nothing_Taken : PySem.W.kitOne K (.ref Nothing) (.ref Taken) = some false)
    (y_Nothing_BadName : PySem.W.kitOne K (.ref Nothing) (.ref BadName) = some false)
    (y_Nothing_BadNumber : PySem.W.kitOne K (.ref Nothing) (.ref BadNumber) = some false)
    (y_Nothing_Nothing : PySem.W.kitOne K (.ref Nothing) (.ref Nothing) = some true)
    (y_Nothing_BadText : PySem.W.kitOne K (.ref Nothing) (.ref BadText) = some false)
    (yv_Nothing : PySem.W.kitOne K (.ref Nothing) (.type "ValueError") = some true)
    (xs_BadText : PySem.W.subIn K (.ref BadText) (.ref FallError) = some true)
    (x1_BadText : PySem.W.findIn K (.ref BadText) "__getattribute__" = some (some (.builtin "BaseException.__getattribute__")))
    (x2_BadText : PySem.W.findIn K (.ref BadText) "__getattr__" = some none)
    (x4_BadText : PySem.W.hasDictIn K BadText = true)
    (x5_BadText : PySem.W.findIn K (.ref BadText) "__class__" = some (some (.builtin "object.__class__")))
    (x8_BadText : PySem.W.mroIn K BadText (.type "object") = some true)
    (y_BadText_BadDeed : PySem.W.kitOne K (.ref BadText) (.ref BadDeed) = some false)
    (y_BadText_NoRow : PySem.W.kitOne K (.ref BadText) (.ref NoRow) = some false)
    (y_BadText_Taken : PySem.W.kitOne K (.ref BadText) (.ref Taken) = some false)
    (y_BadText_BadName : PySem.W.kitOne K (.ref BadText) (.ref BadName) = some false)
    (y_BadText_BadNumber : PySem.W.kitOne K (.ref BadText) (.ref BadNumber) = some false)
    (y_BadText_Nothing : PySem.W.kitOne K (.ref BadText) (.ref Nothing) = some false)
    (y_BadText_BadText : PySem.W.kitOne K (.ref BadText) (.ref BadText) = some true)
    (yv_BadText : PySem.W.kitOne K (.ref BadText) (.type "ValueError") = some true)
    (x6 : PySem.W.specialIn K (.builtin "object.__class__") "__get__" = some (some (.builtin "getset_descriptor.__get__")))
    (x7 : PySem.W.takesIn K (.builtin "object.__class__") = some true)
    (aS : PySem.W.nsIn K mainGlobals "SIZES" = some (some (.ref SZ)))
    (dS : He.dicW K SZ = some (He.keysIn w.params ["new", "name", "worth", "drop"]))
    (zS_new : PySem.W.nsIn K SZ "new" = some (some (.int 5 tk_new)))
    (zS_name : PySem.W.nsIn K SZ "name" = some (some (.int 5 tk_name)))
    (zS_worth : PySem.W.nsIn K SZ "worth" = some (some (.int 5 tk_worth)))
    (zS_drop : PySem.W.nsIn K SZ "drop" = some (some (.int 4 tk_drop)))
    (zS_old : PySem.W.nsIn K SZ "old" = some none)
    (z_len : PySem.W.nsIn K mainGlobals "len" = some none)
    (z_all : PySem.W.nsIn K mainGlobals "all" = some none)
    (z_sorted : PySem.W.nsIn K mainGlobals "sorted" = some none)
    (z_set : PySem.W.nsIn K mainGlobals "set" = some none)
    (z_list : PySem.W.nsIn K mainGlobals "list" = some none)
    (z_str : PySem.W.nsIn K mainGlobals "str" = some none)
    (z_int : PySem.W.nsIn K mainGlobals "int" = some none)
    (z_range : PySem.W.nsIn K mainGlobals "range" = some none)
    (z_isinstance : PySem.W.nsIn K mainGlobals "isinstance" = some none)
    (z_dict : PySem.W.nsIn K mainGlobals "dict" = some none)
    (z_ValueError : PySem.W.nsIn K mainGlobals "ValueError" = some none)
    (chd : PySem.W.codeHdIn K ct Pt = true)
    (nPt : K.lookup Pt = none)
    (hTab : h.get? Pt = some { cls := .none, data := .fields #[] }) :
    LamX.LawAtS l w K CX0 9 63 "script" mg fa h := by
  have e := hfa.symm.trans (PySem.W.mg_of X G a_law)
  cases e
  obtain ⟨zes, zn, dK⟩ := He.dicW_ok dS
  have F_is_name := fun_mk (st := s_is_name) l_is_name c_is_name k_is_name
  have B_is_name := F_is_name.binds (ps := ["name"]) fun _ _ _ _ _ _ us hl => match us, hl with | [_], _ => rfl
  have F_is_worth := fun_mk (st := s_is_worth) l_is_worth c_is_worth k_is_worth
  have B_is_worth := F_is_worth.binds (ps := ["worth"]) fun _ _ _ _ _ _ us hl => match us, hl with | [_], _ => rfl
  have F_is_key := fun_mk (st := s_is_key) l_is_key c_is_key k_is_key
  have B_is_key := F_is_key.binds (ps := ["key"]) fun _ _ _ _ _ _ us hl => match us, hl with | [_], _ => rfl
  have F_is_deed := fun_mk (st := s_is_deed) l_is_deed c_is_deed k_is_deed
  have B_is_deed := F_is_deed.binds (ps := ["deed"]) fun _ _ _ _ _ _ us hl => match us, hl with | [_], _ => rfl
  have F_look_deeds := fun_mk (st := s_look_deeds) l_look_deeds c_look_deeds k_look_deeds
  have B_look_deeds := F_look_deeds.binds (ps := ["deeds"]) fun _ _ _ _ _ _ us hl => match us, hl with | [_], _ => rfl
  have F_in_order := fun_mk (st := s_in_order) l_in_order c_in_order k_in_order
  have B_in_order := F_in_order.binds (ps := ["deeds"]) fun _ _ _ _ _ _ us hl => match us, hl with | [_], _ => rfl
  have F_Row___init__ := fun_mk (st := s_Row___init__) l_Row___init__ c_Row___init__ k_Row___init__
  have B_Row___init__ := F_Row___init__.binds (ps := ["self", "key", "name", "worth"]) fun _ _ _ _ _ _ us hl => match us, hl with | [_, _, _, _], _ => rfl
  have F_all_rows := fun_mk (st := s_all_rows) l_all_rows c_all_rows k_all_rows
  have B_all_rows := F_all_rows.binds (ps := ["deeds"]) fun _ _ _ _ _ _ us hl => match us, hl with | [_], _ => rfl
  have F_there := fun_mk (st := s_there) l_there c_there k_there
  have B_there := F_there.binds (ps := ["deeds"]) fun _ _ _ _ _ _ us hl => match us, hl with | [_], _ => rfl
  have F_named := fun_mk (st := s_named) l_named c_named k_named
  have B_named := F_named.binds (ps := ["deeds"]) fun _ _ _ _ _ _ us hl => match us, hl with | [_], _ => rfl
  have F_row_there := fun_mk (st := s_row_there) l_row_there c_row_there k_row_there
  have B_row_there := F_row_there.binds (ps := ["deeds", "key"]) fun _ _ _ _ _ _ us hl => match us, hl with | [_, _], _ => rfl
  have F_why := fun_mk (st := s_why) l_why c_why k_why
  have B_why := F_why.binds (ps := ["deeds", "key"]) fun _ _ _ _ _ _ us hl => match us, hl with | [_, _], _ => rfl
  have F_wanting_of := fun_mk (st := s_wanting_of) l_wanting_of c_wanting_of k_wanting_of
  have B_wanting_of := F_wanting_of.binds (ps := ["deeds", "name"]) fun _ _ _ _ _ _ us hl => match us, hl with | [_, _], _ => rfl
  have F_wanting := fun_mk (st := s_wanting) l_wanting c_wanting k_wanting
  have B_wanting := F_wanting.binds (ps := ["deeds", "name"]) fun _ _ _ _ _ _ us hl => match us, hl with | [_, _], _ => rfl
  have F_faces := fun_mk (st := s_faces) l_faces c_faces k_faces
  have B_faces := F_faces.binds (ps := ["deeds"]) fun _ _ _ _ _ _ us hl => match us, hl with | [_], _ => rfl
  have F_apart := fun_mk (st := s_apart) l_apart c_apart k_apart
  have B_apart := F_apart.binds (ps := ["one", "other"]) fun _ _ _ _ _ _ us hl => match us, hl with | [_, _], _ => rfl
  have F_silent := fun_mk (st := s_silent) l_silent c_silent k_silent
  have B_silent := F_silent.binds (ps := ["deeds"]) fun _ _ _ _ _ _ us hl => match us, hl with | [_], _ => rfl
  have F_law_cell := fun_mk (st := s_law_cell) l_law_cell c_law_cell k_law_cell
  have B_law_cell := F_law_cell.binds (ps := ["script", "k"]) fun _ _ _ _ _ _ us hl => match us, hl with | [_, _], _ => rfl
  have F_law_mix := fun_mk (st := s_law_mix) l_law_mix c_law_mix k_law_mix
  have B_law_mix := F_law_mix.binds (ps := ["script", "k"]) fun _ _ _ _ _ _ us hl => match us, hl with | [_, _], _ => rfl
  have F_law_draw := fun_mk (st := s_law_draw) l_law_draw c_law_draw k_law_draw
  have B_law_draw := F_law_draw.binds (ps := ["script", "town", "many"]) fun _ _ _ _ _ _ us hl => match us, hl with | [_, _, _], _ => rfl
  have F_law_pick := fun_mk (st := s_law_pick) l_law_pick c_law_pick k_law_pick
  have B_law_pick := F_law_pick.binds (ps := ["script", "town", "some"]) fun _ _ _ _ _ _ us hl => match us, hl with | [_, _, _], _ => rfl
  have F_law_refusal := fun_mk (st := s_law_refusal) l_law_refusal c_law_refusal k_law_refusal
  have B_law_refusal := F_law_refusal.binds (ps := ["caught"]) fun _ _ _ _ _ _ us hl => match us, hl with | [_], _ => rfl
  have F_law_name := fun_mk (st := s_law_name) l_law_name c_law_name k_law_name
  have B_law_name := F_law_name.binds (ps := ["script", "town"]) fun _ _ _ _ _ _ us hl => match us, hl with | [_, _], _ => rfl
  have F_law_deed := fun_mk (st := s_law_deed) l_law_deed c_law_deed k_law_deed
  have B_law_deed := F_law_deed.binds (ps := ["script", "town", "rows", "most"]) fun _ _ _ _ _ _ us hl => match us, hl with | [_, _, _, _], _ => rfl
  have F_law_deeds := fun_mk (st := s_law_deeds) l_law_deeds c_law_deeds k_law_deeds
  have B_law_deeds := F_law_deeds.binds (ps := ["script", "town", "count", "most"]) fun _ _ _ _ _ _ us hl => match us, hl with | [_, _, _, _], _ => rfl
  have F_law_there := fun_mk (st := s_law_there) l_law_there c_law_there k_law_there
  have B_law_there := F_law_there.binds (ps := ["deeds"]) fun _ _ _ _ _ _ us hl => match us, hl with | [_], _ => rfl
  have F_law_shown := fun_mk (st := s_law_shown) l_law_shown c_law_shown k_law_shown
  have B_law_shown := F_law_shown.binds (ps := ["deeds"]) fun _ _ _ _ _ _ us hl => match us, hl with | [_], _ => rfl
  have F_law_one := fun_mk (st := s_law_one) l_law_one c_law_one k_law_one
  have B_law_one := F_law_one.binds (ps := ["kind", "given"]) fun _ _ _ _ _ _ us hl => match us, hl with | [_, _], _ => rfl
  have F_law_told := fun_mk (st := s_law_told) l_law_told c_law_told k_law_told
  have B_law_told := F_law_told.binds (ps := ["kind", "some"]) fun _ _ _ _ _ _ us hl => match us, hl with | [_, _], _ => rfl
  have F_law_faces := fun_mk (st := s_law_faces) l_law_faces c_law_faces k_law_faces
  have B_law_faces := F_law_faces.binds (ps := ["deeds"]) fun _ _ _ _ _ _ us hl => match us, hl with | [_], _ => rfl
  have F_law_why := fun_mk (st := s_law_why) l_law_why c_law_why k_law_why
  have B_law_why := F_law_why.binds (ps := ["deeds", "rows", "row"]) fun _ _ _ _ _ _ us hl => match us, hl with | [_, _, _], _ => rfl
  have F_law := fun_mk (st := s_law) l_law c_law k_law
  have B_law := F_law.binds (ps := ["script"]) fun _ _ _ _ _ _ us hl => match us, hl with | [_], _ => rfl
  let A : Ad := { t_SMALL := t_SMALL, t_MOST_NAME := t_MOST_NAME, t_MOST_WORTH := t_MOST_WORTH, t_MOST_STAMP := t_MOST_STAMP, t_MOST_HAND := t_MOST_HAND, is_name := f_is_name, d_is_name := PySem.W.fnOf "is_name" "is_name" (defArgs s_is_name) (defBody s_is_name) (defScope s_is_name) .none kV_is_name dc_is_name pm_is_name an_is_name (cd_is_name) ct_is_name, is_worth := f_is_worth, d_is_worth := PySem.W.fnOf "is_worth" "is_worth" (defArgs s_is_worth) (defBody s_is_worth) (defScope s_is_worth) .none kV_is_worth dc_is_worth pm_is_worth an_is_worth (cd_is_worth) ct_is_worth, is_key := f_is_key, d_is_key := PySem.W.fnOf "is_key" "is_key" (defArgs s_is_key) (defBody s_is_key) (defScope s_is_key) .none kV_is_key dc_is_key pm_is_key an_is_key (cd_is_key) ct_is_key, is_deed := f_is_deed, d_is_deed := PySem.W.fnOf "is_deed" "is_deed" (defArgs s_is_deed) (defBody s_is_deed) (defScope s_is_deed) .none kV_is_deed dc_is_deed pm_is_deed an_is_deed (cd_is_deed) ct_is_deed, look_deeds := f_look_deeds, d_look_deeds := PySem.W.fnOf "look_deeds" "look_deeds" (defArgs s_look_deeds) (defBody s_look_deeds) (defScope s_look_deeds) .none kV_look_deeds dc_look_deeds pm_look_deeds an_look_deeds (cd_look_deeds) ct_look_deeds, in_order := f_in_order, d_in_order := PySem.W.fnOf "in_order" "in_order" (defArgs s_in_order) (defBody s_in_order) (defScope s_in_order) .none kV_in_order dc_in_order pm_in_order an_in_order (cd_in_order) ct_in_order, Row___init__ := f_Row___init__, d_Row___init__ := PySem.W.fnOf "__init__" "Row.__init__" (defArgs s_Row___init__) (defBody s_Row___init__) (defScope s_Row___init__) .none kV_Row___init__ dc_Row___init__ pm_Row___init__ an_Row___init__ (cd_Row___init__) ct_Row___init__, all_rows := f_all_rows, d_all_rows := PySem.W.fnOf "all_rows" "all_rows" (defArgs s_all_rows) (defBody s_all_rows) (defScope s_all_rows) .none kV_all_rows dc_all_rows pm_all_rows an_all_rows (cd_all_rows) ct_all_rows, there := f_there, d_there := PySem.W.fnOf "there" "there" (defArgs s_there) (defBody s_there) (defScope s_there) .none kV_there dc_there pm_there an_there (.ref ct) ct_there, named := f_named, d_named := PySem.W.fnOf "named" "named" (defArgs s_named) (defBody s_named) (defScope s_named) .none kV_named dc_named pm_named an_named (cd_named) ct_named, row_there := f_row_there, d_row_there := PySem.W.fnOf "row_there" "row_there" (defArgs s_row_there) (defBody s_row_there) (defScope s_row_there) .none kV_row_there dc_row_there pm_row_there an_row_there (cd_row_there) ct_row_there, why := f_why, d_why := PySem.W.fnOf "why" "why" (defArgs s_why) (defBody s_why) (defScope s_why) .none kV_why dc_why pm_why an_why (cd_why) ct_why, wanting_of := f_wanting_of, d_wanting_of := PySem.W.fnOf "wanting_of" "wanting_of" (defArgs s_wanting_of) (defBody s_wanting_of) (defScope s_wanting_of) .none kV_wanting_of dc_wanting_of pm_wanting_of an_wanting_of (cd_wanting_of) ct_wanting_of, wanting := f_wanting, d_wanting := PySem.W.fnOf "wanting" "wanting" (defArgs s_wanting) (defBody s_wanting) (defScope s_wanting) .none kV_wanting dc_wanting pm_wanting an_wanting (cd_wanting) ct_wanting, faces := f_faces, d_faces := PySem.W.fnOf "faces" "faces" (defArgs s_faces) (defBody s_faces) (defScope s_faces) .none kV_faces dc_faces pm_faces an_faces (cd_faces) ct_faces, apart := f_apart, d_apart := PySem.W.fnOf "apart" "apart" (defArgs s_apart) (defBody s_apart) (defScope s_apart) .none kV_apart dc_apart pm_apart an_apart (cd_apart) ct_apart, silent := f_silent, d_silent := PySem.W.fnOf "silent" "silent" (defArgs s_silent) (defBody s_silent) (defScope s_silent) .none kV_silent dc_silent pm_silent an_silent (cd_silent) ct_silent, law_cell := f_law_cell, d_law_cell := PySem.W.fnOf "_law_cell" "_law_cell" (defArgs s_law_cell) (defBody s_law_cell) (defScope s_law_cell) .none kV_law_cell dc_law_cell pm_law_cell an_law_cell (cd_law_cell) ct_law_cell, law_mix := f_law_mix, d_law_mix := PySem.W.fnOf "_law_mix" "_law_mix" (defArgs s_law_mix) (defBody s_law_mix) (defScope s_law_mix) .none kV_law_mix dc_law_mix pm_law_mix an_law_mix (cd_law_mix) ct_law_mix, law_draw := f_law_draw, d_law_draw := PySem.W.fnOf "_law_draw" "_law_draw" (defArgs s_law_draw) (defBody s_law_draw) (defScope s_law_draw) .none kV_law_draw dc_law_draw pm_law_draw an_law_draw (cd_law_draw) ct_law_draw, law_pick := f_law_pick, d_law_pick := PySem.W.fnOf "_law_pick" "_law_pick" (defArgs s_law_pick) (defBody s_law_pick) (defScope s_law_pick) .none kV_law_pick dc_law_pick pm_law_pick an_law_pick (cd_law_pick) ct_law_pick, law_refusal := f_law_refusal, d_law_refusal := PySem.W.fnOf "_law_refusal" "_law_refusal" (defArgs s_law_refusal) (defBody s_law_refusal) (defScope s_law_refusal) .none kV_law_refusal dc_law_refusal pm_law_refusal an_law_refusal (cd_law_refusal) ct_law_refusal, law_name := f_law_name, d_law_name := PySem.W.fnOf "_law_name" "_law_name" (defArgs s_law_name) (defBody s_law_name) (defScope s_law_name) .none kV_law_name dc_law_name pm_law_name an_law_name (cd_law_name) ct_law_name, law_deed := f_law_deed, d_law_deed := PySem.W.fnOf "_law_deed" "_law_deed" (defArgs s_law_deed) (defBody s_law_deed) (defScope s_law_deed) .none kV_law_deed dc_law_deed pm_law_deed an_law_deed (cd_law_deed) ct_law_deed, law_deeds := f_law_deeds, d_law_deeds := PySem.W.fnOf "_law_deeds" "_law_deeds" (defArgs s_law_deeds) (defBody s_law_deeds) (defScope s_law_deeds) .none kV_law_deeds dc_law_deeds pm_law_deeds an_law_deeds (cd_law_deeds) ct_law_deeds, law_there := f_law_there, d_law_there := PySem.W.fnOf "_law_there" "_law_there" (defArgs s_law_there) (defBody s_law_there) (defScope s_law_there) .none kV_law_there dc_law_there pm_law_there an_law_there (cd_law_there) ct_law_there, law_shown := f_law_shown, d_law_shown := PySem.W.fnOf "_law_shown" "_law_shown" (defArgs s_law_shown) (defBody s_law_shown) (defScope s_law_shown) .none kV_law_shown dc_law_shown pm_law_shown an_law_shown (cd_law_shown) ct_law_shown, law_one := f_law_one, d_law_one := PySem.W.fnOf "_law_one" "_law_one" (defArgs s_law_one) (defBody s_law_one) (defScope s_law_one) .none kV_law_one dc_law_one pm_law_one an_law_one (cd_law_one) ct_law_one, law_told := f_law_told, d_law_told := PySem.W.fnOf "_law_told" "_law_told" (defArgs s_law_told) (defBody s_law_told) (defScope s_law_told) .none kV_law_told dc_law_told pm_law_told an_law_told (cd_law_told) ct_law_told, law_faces := f_law_faces, d_law_faces := PySem.W.fnOf "_law_faces" "_law_faces" (defArgs s_law_faces) (defBody s_law_faces) (defScope s_law_faces) .none kV_law_faces dc_law_faces pm_law_faces an_law_faces (cd_law_faces) ct_law_faces, law_why := f_law_why, d_law_why := PySem.W.fnOf "_law_why" "_law_why" (defArgs s_law_why) (defBody s_law_why) (defScope s_law_why) .none kV_law_why dc_law_why pm_law_why an_law_why (cd_law_why) ct_law_why, law := fa, d_law := PySem.W.fnOf "law" "law" (defArgs s_law) (defBody s_law) (defScope s_law) .none kV_law dc_law pm_law an_law (cd_law) ct_law, ct := ct, Pt := Pt, Row := Row, FallError := FallError, BadDeed := BadDeed, NoRow := NoRow, Taken := Taken, BadName := BadName, BadNumber := BadNumber, Nothing := Nothing, BadText := BadText, SIZES := SZ, zes := zes, zn := zn, t_new := tk_new, t_name := tk_name, t_worth := tk_worth, t_drop := tk_drop }
  have T : Tx K w mg A := { c_SMALL := PySem.W.mg_of X G q_SMALL, c_MOST_NAME := PySem.W.mg_of X G q_MOST_NAME, c_MOST_WORTH := PySem.W.mg_of X G q_MOST_WORTH, c_MOST_STAMP := PySem.W.mg_of X G q_MOST_STAMP, c_MOST_HAND := PySem.W.mg_of X G q_MOST_HAND, f_is_name := ⟨F_is_name, PySem.W.mg_of X G a_is_name, B_is_name⟩, f_is_worth := ⟨F_is_worth, PySem.W.mg_of X G a_is_worth, B_is_worth⟩, f_is_key := ⟨F_is_key, PySem.W.mg_of X G a_is_key, B_is_key⟩, f_is_deed := ⟨F_is_deed, PySem.W.mg_of X G a_is_deed, B_is_deed⟩, f_look_deeds := ⟨F_look_deeds, PySem.W.mg_of X G a_look_deeds, B_look_deeds⟩, f_in_order := ⟨F_in_order, PySem.W.mg_of X G a_in_order, B_in_order⟩, f_Row___init__ := ⟨F_Row___init__, B_Row___init__⟩, f_all_rows := ⟨F_all_rows, PySem.W.mg_of X G a_all_rows, B_all_rows⟩, f_there := ⟨F_there, PySem.W.mg_of X G a_there, B_there⟩, f_named := ⟨F_named, PySem.W.mg_of X G a_named, B_named⟩, f_row_there := ⟨F_row_there, PySem.W.mg_of X G a_row_there, B_row_there⟩, f_why := ⟨F_why, PySem.W.mg_of X G a_why, B_why⟩, f_wanting_of := ⟨F_wanting_of, PySem.W.mg_of X G a_wanting_of, B_wanting_of⟩, f_wanting := ⟨F_wanting, PySem.W.mg_of X G a_wanting, B_wanting⟩, f_faces := ⟨F_faces, PySem.W.mg_of X G a_faces, B_faces⟩, f_apart := ⟨F_apart, PySem.W.mg_of X G a_apart, B_apart⟩, f_silent := ⟨F_silent, PySem.W.mg_of X G a_silent, B_silent⟩, f_law_cell := ⟨F_law_cell, PySem.W.mg_of X G a_law_cell, B_law_cell⟩, f_law_mix := ⟨F_law_mix, PySem.W.mg_of X G a_law_mix, B_law_mix⟩, f_law_draw := ⟨F_law_draw, PySem.W.mg_of X G a_law_draw, B_law_draw⟩, f_law_pick := ⟨F_law_pick, PySem.W.mg_of X G a_law_pick, B_law_pick⟩, f_law_refusal := ⟨F_law_refusal, PySem.W.mg_of X G a_law_refusal, B_law_refusal⟩, f_law_name := ⟨F_law_name, PySem.W.mg_of X G a_law_name, B_law_name⟩, f_law_deed := ⟨F_law_deed, PySem.W.mg_of X G a_law_deed, B_law_deed⟩, f_law_deeds := ⟨F_law_deeds, PySem.W.mg_of X G a_law_deeds, B_law_deeds⟩, f_law_there := ⟨F_law_there, PySem.W.mg_of X G a_law_there, B_law_there⟩, f_law_shown := ⟨F_law_shown, PySem.W.mg_of X G a_law_shown, B_law_shown⟩, f_law_one := ⟨F_law_one, PySem.W.mg_of X G a_law_one, B_law_one⟩, f_law_told := ⟨F_law_told, PySem.W.mg_of X G a_law_told, B_law_told⟩, f_law_faces := ⟨F_law_faces, PySem.W.mg_of X G a_law_faces, B_law_faces⟩, f_law_why := ⟨F_law_why, PySem.W.mg_of X G a_law_why, B_law_why⟩, f_law := ⟨F_law, PySem.W.mg_of X G a_law, B_law⟩, lam_there := ⟨⟨_, _, _, _, _, _, _, _, rfl, l_there, c_there⟩⟩, g_Row := PySem.W.mg_of X G aC_Row, cl_Row := ⟨pg_Row, hd_Row, po_Row, sa_Row⟩, mk_Row := ⟨mk_Row, a_Row___init__, i_Row___init__, kc_Row⟩, n_Row_key := n_Row_key, n_Row_name := n_Row_name, n_Row_since := n_Row_since, n_Row_worth := n_Row_worth, n_Row_is_dropped := n_Row_is_dropped, xc_FallError := ⟨xe_FallError, PySem.W.mg_of X G xg_FallError, xk_FallError, xb_FallError, xt_FallError⟩, xc_BadDeed := ⟨xe_BadDeed, PySem.W.mg_of X G xg_BadDeed, xk_BadDeed, xb_BadDeed, xt_BadDeed⟩, xc_NoRow := ⟨xe_NoRow, PySem.W.mg_of X G xg_NoRow, xk_NoRow, xb_NoRow, xt_NoRow⟩, xc_Taken := ⟨xe_Taken, PySem.W.mg_of X G xg_Taken, xk_Taken, xb_Taken, xt_Taken⟩, xc_BadName := ⟨xe_BadName, PySem.W.mg_of X G xg_BadName, xk_BadName, xb_BadName, xt_BadName⟩, xc_BadNumber := ⟨xe_BadNumber, PySem.W.mg_of X G xg_BadNumber, xk_BadNumber, xb_BadNumber, xt_BadNumber⟩, xc_Nothing := ⟨xe_Nothing, PySem.W.mg_of X G xg_Nothing, xk_Nothing, xb_Nothing, xt_Nothing⟩, xc_BadText := ⟨xe_BadText, PySem.W.mg_of X G xg_BadText, xk_BadText, xb_BadText, xt_BadText⟩, ec_BadDeed := ⟨x1_BadDeed, x2_BadDeed, xb_BadDeed, x4_BadDeed, x5_BadDeed, x6, x7, x8_BadDeed⟩, xm_BadDeed := PySem.W.exm_ref xb_FallError xd_FallError xt_FallError xs_BadDeed, ki_BadDeed_BadDeed := y_BadDeed_BadDeed, ki_BadDeed_NoRow := y_BadDeed_NoRow, ki_BadDeed_Taken := y_BadDeed_Taken, ki_BadDeed_BadName := y_BadDeed_BadName, ki_BadDeed_BadNumber := y_BadDeed_BadNumber, ki_BadDeed_Nothing := y_BadDeed_Nothing, ki_BadDeed_BadText := y_BadDeed_BadText, kv_BadDeed := yv_BadDeed, ec_NoRow := ⟨x1_NoRow, x2_NoRow, xb_NoRow, x4_NoRow, x5_NoRow, x6, x7, x8_NoRow⟩, xm_NoRow := PySem.W.exm_ref xb_FallError xd_FallError xt_FallError xs_NoRow, ki_NoRow_BadDeed := y_NoRow_BadDeed, ki_NoRow_NoRow := y_NoRow_NoRow, ki_NoRow_Taken := y_NoRow_Taken, ki_NoRow_BadName := y_NoRow_BadName, ki_NoRow_BadNumber := y_NoRow_BadNumber, ki_NoRow_Nothing := y_NoRow_Nothing, ki_NoRow_BadText := y_NoRow_BadText, kv_NoRow := yv_NoRow, ec_Taken := ⟨x1_Taken, x2_Taken, xb_Taken, x4_Taken, x5_Taken, x6, x7, x8_Taken⟩, xm_Taken := PySem.W.exm_ref xb_FallError xd_FallError xt_FallError xs_Taken, ki_Taken_BadDeed := y_Taken_BadDeed, ki_Taken_NoRow := y_Taken_NoRow, ki_Taken_Taken := y_Taken_Taken, ki_Taken_BadName := y_Taken_BadName, ki_Taken_BadNumber := y_Taken_BadNumber, ki_Taken_Nothing := y_Taken_Nothing, ki_Taken_BadText := y_Taken_BadText, kv_Taken := yv_Taken, ec_BadName := ⟨x1_BadName, x2_BadName, xb_BadName, x4_BadName, x5_BadName, x6, x7, x8_BadName⟩, xm_BadName := PySem.W.exm_ref xb_FallError xd_FallError xt_FallError xs_BadName, ki_BadName_BadDeed := y_BadName_BadDeed, ki_BadName_NoRow := y_BadName_NoRow, ki_BadName_Taken := y_BadName_Taken, ki_BadName_BadName := y_BadName_BadName, ki_BadName_BadNumber := y_BadName_BadNumber, ki_BadName_Nothing := y_BadName_Nothing, ki_BadName_BadText := y_BadName_BadText, kv_BadName := yv_BadName, ec_BadNumber := ⟨x1_BadNumber, x2_BadNumber, xb_BadNumber, x4_BadNumber, x5_BadNumber, x6, x7, x8_BadNumber⟩, xm_BadNumber := PySem.W.exm_ref xb_FallError xd_FallError xt_FallError xs_BadNumber, ki_BadNumber_BadDeed := y_BadNumber_BadDeed, ki_BadNumber_NoRow := y_BadNumber_NoRow, ki_BadNumber_Taken := y_BadNumber_Taken, ki_BadNumber_BadName := y_BadNumber_BadName, ki_BadNumber_BadNumber := y_BadNumber_BadNumber, ki_BadNumber_Nothing := y_BadNumber_Nothing, ki_BadNumber_BadText := y_BadNumber_BadText, kv_BadNumber := yv_BadNumber, ec_Nothing := ⟨x1_Nothing, x2_Nothing, xb_Nothing, x4_Nothing, x5_Nothing, x6, x7, x8_Nothing⟩, xm_Nothing := PySem.W.exm_ref xb_FallError xd_FallError xt_FallError xs_Nothing, ki_Nothing_BadDeed := y_Nothing_BadDeed, ki_Nothing_NoRow := y_Nothing_NoRow, ki_Nothing_Taken := y_Nothing_Taken, ki_Nothing_BadName := y_Nothing_BadName, ki_Nothing_BadNumber := y_Nothing_BadNumber, ki_Nothing_Nothing := y_Nothing_Nothing, ki_Nothing_BadText := y_Nothing_BadText, kv_Nothing := yv_Nothing, ec_BadText := ⟨x1_BadText, x2_BadText, xb_BadText, x4_BadText, x5_BadText, x6, x7, x8_BadText⟩, xm_BadText := PySem.W.exm_ref xb_FallError xd_FallError xt_FallError xs_BadText, ki_BadText_BadDeed := y_BadText_BadDeed, ki_BadText_NoRow := y_BadText_NoRow, ki_BadText_Taken := y_BadText_Taken, ki_BadText_BadName := y_BadText_BadName, ki_BadText_BadNumber := y_BadText_BadNumber, ki_BadText_Nothing := y_BadText_Nothing, ki_BadText_BadText := y_BadText_BadText, kv_BadText := yv_BadText, g_SIZES := PySem.W.mg_of X G aS, d_SIZES := dK, z_new := zS_new, z_name := zS_name, z_worth := zS_worth, z_drop := zS_drop, z_old := zS_old, b_len := PySem.W.mg_none_of X G z_len, b_all := PySem.W.mg_none_of X G z_all, b_sorted := PySem.W.mg_none_of X G z_sorted, b_set := PySem.W.mg_none_of X G z_set, b_list := PySem.W.mg_none_of X G z_list, b_str := PySem.W.mg_none_of X G z_str, b_int := PySem.W.mg_none_of X G z_int, b_range := PySem.W.mg_none_of X G z_range, b_isinstance := PySem.W.mg_none_of X G z_isinstance, b_dict := PySem.W.mg_none_of X G z_dict, b_ValueError := PySem.W.mg_none_of X G z_ValueError }
  refine ⟨A.d_law, [(ct, Pt)], spOf K (sp_law Pt), fun p hp => ?_, fun p hp => ?_, fun p hp => ?_, fun s v => .of_eq rfl, fun H a ns hl hb hH hS => start_at (hH (ct, Pt) (List.mem_singleton.mpr rfl)) hS, fun base hK hG hTB => ?_⟩
  · rw [List.mem_singleton.mp hp]; exact hTab
  · rw [List.mem_singleton.mp hp]; exact nPt
  · rw [List.mem_singleton.mp hp]; exact PySem.W.codeHd_of_K X chd
  have TB : LamX.TabB base mg A.ct A.Pt := hTB (ct, Pt) (List.mem_singleton.mpr rfl)
  have G_law_cell : OkD l.prog w K mg base A.law_cell A.d_law_cell ["script", "k"] 1 (sp_law_cell) := ok_law_cell T 
  have G_law_mix : OkD l.prog w K mg base A.law_mix A.d_law_mix ["script", "k"] 2 (sp_law_mix) := ok_law_mix T G_law_cell
  have G_law_draw : OkD l.prog w K mg base A.law_draw A.d_law_draw ["script", "town", "many"] 3 (sp_law_draw) := ok_law_draw T G_law_mix
  have G_law_pick : OkD l.prog w K mg base A.law_pick A.d_law_pick ["script", "town", "some"] 4 (sp_law_pick) := ok_law_pick T G_law_draw
  have G_law_name : OkD l.prog w K mg base A.law_name A.d_law_name ["script", "town"] 5 (sp_law_name) := ok_law_name T G_law_draw G_law_pick
  have G_law_deed : OkD l.prog w K mg base A.law_deed A.d_law_deed ["script", "town", "rows", "most"] 6 (sp_law_deed) := ok_law_deed T G_law_draw G_law_pick G_law_name
  have G_law_deeds : OkD l.prog w K mg base A.law_deeds A.d_law_deeds ["script", "town", "count", "most"] 7 (sp_law_deeds) := ok_law_deeds T G_law_draw G_law_deed
  have G_law_there : OkD l.prog w K mg base A.law_there A.d_law_there ["deeds"] 1 (sp_law_there) := ok_law_there T 
  have G_is_key : OkD l.prog w K mg base A.is_key A.d_is_key ["key"] 1 (sp_is_key) := ok_is_key T 
  have G_is_name : OkD l.prog w K mg base A.is_name A.d_is_name ["name"] 1 (sp_is_name) := ok_is_name T 
  have G_is_worth : OkD l.prog w K mg base A.is_worth A.d_is_worth ["worth"] 1 (sp_is_worth) := ok_is_worth T 
  have G_is_deed : OkD l.prog w K mg base A.is_deed A.d_is_deed ["deed"] 2 (sp_is_deed) := ok_is_deed T G_is_key G_is_name G_is_worth
  have G_look_deeds : OkD l.prog w K mg base A.look_deeds A.d_look_deeds ["deeds"] 3 (sp_look_deeds) := ok_look_deeds T G_is_deed
  have G_in_order : OkD l.prog w K mg base A.in_order A.d_in_order ["deeds"] 1 (sp_in_order) := ok_in_order T 
  have G_Row___init__ : OkD l.prog w K mg base A.Row___init__ A.d_Row___init__ ["self", "key", "name", "worth"] 1 (sp_Row___init__ A.Row) := ok_Row___init__ T 
  have G_all_rows : OkD l.prog w K mg base A.all_rows A.d_all_rows ["deeds"] 3 (sp_all_rows A.Row) := ok_all_rows T G_in_order G_Row___init__
  have G_there : OkD l.prog w K mg base A.there A.d_there ["deeds"] 4 (sp_there A.Row A.Pt) := ok_there T TB G_all_rows
  have GX_row_there : OkX l.prog w K mg base A.row_there A.d_row_there ["deeds", "key"] 5 (spx_row_there A) := okx_row_there T G_there
  have G_wanting_of : OkD l.prog w K mg base A.wanting_of A.d_wanting_of ["deeds", "name"] 5 (sp_wanting_of A) := ok_wanting_of T G_there
  have GX_why : OkX l.prog w K mg base A.why A.d_why ["deeds", "key"] 6 (spx_why A) := okx_why T G_look_deeds GX_row_there G_in_order G_wanting_of
  have G_why : OkD l.prog w K mg base A.why A.d_why ["deeds", "key"] 6 (sp_why A) := ok_why T GX_why
  have G_law_why : OkD l.prog w K mg base A.law_why A.d_law_why ["deeds", "rows", "row"] 1 (sp_law_why) := ok_law_why T 
  have GX_law_one : OkX l.prog w K mg base A.law_one A.d_law_one ["kind", "given"] 7 (spx_law_one A) := okx_law_one T GX_why
  have G_law_refusal : OkD l.prog w K mg base A.law_refusal A.d_law_refusal ["caught"] 1 (sp_law_refusal A) := ok_law_refusal T 
  have G_law_told : OkD l.prog w K mg base A.law_told A.d_law_told ["kind", "some"] 8 (sp_law_told A) := ok_law_told T GX_law_one G_law_refusal
  have G_wanting : OkD l.prog w K mg base A.wanting A.d_wanting ["deeds", "name"] 6 (sp_wanting A) := ok_wanting T G_look_deeds G_wanting_of
  have G_law_shown : OkD l.prog w K mg base A.law_shown A.d_law_shown ["deeds"] 2 (sp_law_shown) := ok_law_shown T G_law_there
  have G_law_faces : OkD l.prog w K mg base A.law_faces A.d_law_faces ["deeds"] 3 (sp_law_faces) := ok_law_faces T G_law_shown
  have G_named : OkD l.prog w K mg base A.named A.d_named ["deeds"] 5 (sp_named A.Row A.Pt) := ok_named T G_there
  have G_faces : OkD l.prog w K mg base A.faces A.d_faces ["deeds"] 6 (sp_faces A) := ok_faces T G_named
  have G_apart : OkD l.prog w K mg base A.apart A.d_apart ["one", "other"] 7 (sp_apart A) := ok_apart T G_look_deeds G_faces
  have G_silent : OkD l.prog w K mg base A.silent A.d_silent ["deeds"] 7 (sp_silent A) := ok_silent T G_look_deeds G_in_order G_faces
  have G_law : OkD l.prog w K mg base A.law A.d_law ["script"] 9 (sp_law A.Pt) := ok_law T G_law_deeds G_law_pick G_law_there G_why G_law_why G_law_told G_wanting G_law_draw G_law_faces G_apart G_silent
  exact G_law
theorem walk {l : PySem.W.OpenLaw} {q : Program} {loose : List Str} {XP : (Str → Option Value) → Heap → Prop} {YP : World → Heap → Prop} {d : DefRec} {K : Params → PySem.W.Frag} (hn : l.most = some 63) (hdf : d.params.defaults = []) (hY : ∀ (w : World) (h : Heap), YP w h → (K w.params).In h)
    (F : ∀ (w : World) (mg : Str → Option Value) (fa : Addr) (h : Heap), YP w h → (K w.params).In h → h.Ns mainGlobals mg → mg d.name = some (.ref fa) → LamX.LawAtS l w (K w.params) CX0 9 63 "script" mg fa h) :
    PySem.W.WalkO q loose XP YP l.row.toRowW d [] (fun f vs => PySem.call f vs) :=
  LamX.walk_ofTs (n := 63) (k := 9) (x := "script") (CX := fun _ => CX0) hn (by decide) hdf ⟨rfl, by decide, by decide⟩ hY F fun _ _ _ _ _ z => z
end NF

open PySem PySem.W PyProof.Rows in
set_option maxRecDepth 100000 in
set_option maxHeartbeats 0 in
theorem PySem.Challenge.cw_namefall_k40_whole_reasons_holds : PySem.Challenge.rw_namefall_k40_whole_reasons.Holds := by
  w_on; o_law; k_head; (case hw => w_witness2)
  k_fill
  refine NF.walk (l := PySem.Challenge.rw_namefall_k40_whole_reasons) rfl rfl (fun w h Y => PySem.W.km_in_of Y) ?F
  case F =>
    intro w mg fa h Y KX G hmg
    refine' NF.all_mk KX G hmg ?aC_Row ?a_is_name ?l_is_name ?c_is_name ?k_is_name ?a_is_worth ?l_is_worth ?c_is_worth ?k_is_worth ?a_is_key ?l_is_key ?c_is_key ?k_is_key ?a_is_deed ?l_is_deed ?c_is_deed ?k_is_deed ?a_look_deeds ?l_look_deeds ?c_look_deeds ?k_look_deeds ?a_in_order ?l_in_order ?c_in_order ?k_in_order ?a_Row___init__ ?i_Row___init__ ?l_Row___init__ ?c_Row___init__ ?k_Row___init__ ?a_all_rows ?l_all_rows ?c_all_rows ?k_all_rows ?a_there ?l_there ?c_there ?k_there ?a_named ?l_named ?c_named ?k_named ?a_row_there ?l_row_there ?c_row_there ?k_row_there ?a_why ?l_why ?c_why ?k_why ?a_wanting_of ?l_wanting_of ?c_wanting_of ?k_wanting_of ?a_wanting ?l_wanting ?c_wanting ?k_wanting ?a_faces ?l_faces ?c_faces ?k_faces ?a_apart ?l_apart ?c_apart ?k_apart ?a_silent ?l_silent ?c_silent ?k_silent ?a_law_cell ?l_law_cell ?c_law_cell ?k_law_cell ?a_law_mix ?l_law_mix ?c_law_mix ?k_law_mix ?a_law_draw ?l_law_draw ?c_law_draw ?k_law_draw ?a_law_pick ?l_law_pick ?c_law_pick ?k_law_pick ?a_law_refusal ?l_law_refusal ?c_law_refusal ?k_law_refusal ?a_law_name ?l_law_name ?c_law_name ?k_law_name ?a_law_deed ?l_law_deed ?c_law_deed ?k_law_deed ?a_law_deeds ?l_law_deeds ?c_law_deeds ?k_law_deeds ?a_law_there ?l_law_there ?c_law_there ?k_law_there ?a_law_shown ?l_law_shown ?c_law_shown ?k_law_shown ?a_law_one ?l_law_one ?c_law_one ?k_law_one ?a_law_told ?l_law_told ?c_law_told ?k_law_told ?a_law_faces ?l_law_faces ?c_law_faces ?k_law_faces ?a_law_why ?l_law_why ?c_law_why ?k_law_why ?a_law ?l_law ?c_law ?k_law ?q_SMALL ?q_MOST_NAME ?q_MOST_WORTH ?q_MOST_STAMP ?q_MOST_HAND ?pg_Row ?hd_Row ?po_Row ?sa_Row ?mk_Row ?kc_Row ?n_Row_key ?n_Row_name ?n_Row_since ?n_Row_worth ?n_Row_is_dropped ?xg_FallError ?xe_FallError ?xk_FallError ?xb_FallError ?xt_FallError ?xg_BadDeed ?xe_BadDeed ?xk_BadDeed ?xb_BadDeed ?xt_BadDeed ?xg_NoRow ?xe_NoRow ?xk_NoRow ?xb_NoRow ?xt_NoRow ?xg_Taken ?xe_Taken ?xk_Taken ?xb_Taken ?xt_Taken ?xg_BadName ?xe_BadName ?xk_BadName ?xb_BadName ?xt_BadName ?xg_BadNumber ?xe_BadNumber ?xk_BadNumber ?xb_BadNumber ?xt_BadNumber ?xg_Nothing ?xe_Nothing ?xk_Nothing ?xb_Nothing ?xt_Nothing ?xg_BadText ?xe_BadText ?xk_BadText ?xb_BadText ?xt_BadText ?xd_FallError ?xs_BadDeed ?x1_BadDeed ?x2_BadDeed ?x4_BadDeed ?x5_BadDeed ?x8_BadDeed ?y_BadDeed_BadDeed ?y_BadDeed_NoRow ?y_BadDeed_Taken ?y_BadDeed_BadName ?y_BadDeed_BadNumber ?y_BadDeed_Nothing ?y_BadDeed_BadText ?yv_BadDeed ?xs_NoRow ?x1_NoRow ?x2_NoRow ?x4_NoRow ?x5_NoRow ?x8_NoRow ?y_NoRow_BadDeed ?y_NoRow_NoRow ?y_NoRow_Taken ?y_NoRow_BadName ?y_NoRow_BadNumber ?y_NoRow_Nothing ?y_NoRow_BadText ?yv_NoRow ?xs_Taken ?x1_Taken ?x2_Taken ?x4_Taken ?x5_Taken ?x8_Taken ?y_Taken_BadDeed ?y_Taken_NoRow ?y_Taken_Taken ?y_Taken_BadName ?y_Taken_BadNumber ?y_Taken_Nothing ?y_Taken_BadText ?yv_Taken ?xs_BadName ?x1_BadName ?x2_BadName ?x4_BadName ?x5_BadName ?x8_BadName ?y_BadName_BadDeed ?y_BadName_NoRow ?y_BadName_Taken ?y_BadName_BadName ?y_BadName_BadNumber ?y_BadName_Nothing ?y_BadName_BadText ?yv_BadName ?xs_BadNumber ?x1_BadNumber ?x2_BadNumber ?x4_BadNumber ?x5_BadNumber ?x8_BadNumber ?y_BadNumber_BadDeed ?y_BadNumber_NoRow ?y_BadNumber_Taken ?y_BadNumber_BadName ?y_BadNumber_BadNumber ?y_BadNumber_Nothing ?y_BadNumber_BadText ?yv_BadNumber ?xs_Nothing ?x1_Nothing ?x2_Nothing ?x4_Nothing ?x5_Nothing ?x8_Nothing ?y_Nothing_BadDeed ?y_Nothing_NoRow ?y_Nothing_Taken ?y_Nothing_BadName ?y_Nothing_BadNumber ?y_Nothing_Nothing ?y_Nothing_BadText ?yv_Nothing ?xs_BadText ?x1_BadText ?x2_BadText ?x4_BadText ?x5_BadText ?x8_BadText ?y_BadText_BadDeed ?y_BadText_NoRow ?y_BadText_Taken ?y_BadText_BadName ?y_BadText_BadNumber ?y_BadText_Nothing ?y_BadText_BadText ?yv_BadText ?x6 ?x7 ?aS ?dS ?zS_new ?zS_name ?zS_worth ?zS_drop ?zS_old ?z_len ?z_all ?z_sorted ?z_set ?z_list ?z_str ?z_int ?z_range ?z_isinstance ?z_dict ?z_ValueError ?chd ?nPt ?hTab
    (case hTab => exact PySem.W.km_tabs_of Y _ (List.mem_singleton.mpr rfl))
    (case aC_Row => k_is)
    (case a_is_name => k_is)
    (case l_is_name => k_is)
    (case c_is_name => k_is)
    (case k_is_name => k_is)
    (case a_is_worth => k_is)
    (case l_is_worth => k_is)
    (case c_is_worth => k_is)
    (case k_is_worth => k_is)
    (case a_is_key => k_is)
    (case l_is_key => k_is)
    (case c_is_key => k_is)
    (case k_is_key => k_is)
    (case a_is_deed => k_is)
    (case l_is_deed => k_is)
    (case c_is_deed => k_is)
    (case k_is_deed => k_is)
    (case a_look_deeds => k_is)
    (case l_look_deeds => k_is)
    (case c_look_deeds => k_is)
    (case k_look_deeds => k_is)
    (case a_in_order => k_is)
    (case l_in_order => k_is)
    (case c_in_order => k_is)
    (case k_in_order => k_is)
    (case a_Row___init__ => k_is)
    (case i_Row___init__ => k_is)
    (case l_Row___init__ => k_is)
    (case c_Row___init__ => k_is)
    (case k_Row___init__ => k_is)
    (case a_all_rows => k_is)
    (case l_all_rows => k_is)
    (case c_all_rows => k_is)
    (case k_all_rows => k_is)
    (case a_there => k_is)
    (case l_there => k_is)
    (case c_there => k_is)
    (case k_there => k_is)
    (case a_named => k_is)
    (case l_named => k_is)
    (case c_named => k_is)
    (case k_named => k_is)
    (case a_row_there => k_is)
    (case l_row_there => k_is)
    (case c_row_there => k_is)
    (case k_row_there => k_is)
    (case a_why => k_is)
    (case l_why => k_is)
    (case c_why => k_is)
    (case k_why => k_is)
    (case a_wanting_of => k_is)
    (case l_wanting_of => k_is)
    (case c_wanting_of => k_is)
    (case k_wanting_of => k_is)
    (case a_wanting => k_is)
    (case l_wanting => k_is)
    (case c_wanting => k_is)
    (case k_wanting => k_is)
    (case a_faces => k_is)
    (case l_faces => k_is)
    (case c_faces => k_is)
    (case k_faces => k_is)
    (case a_apart => k_is)
    (case l_apart => k_is)
    (case c_apart => k_is)
    (case k_apart => k_is)
    (case a_silent => k_is)
    (case l_silent => k_is)
    (case c_silent => k_is)
    (case k_silent => k_is)
    (case a_law_cell => k_is)
    (case l_law_cell => k_is)
    (case c_law_cell => k_is)
    (case k_law_cell => k_is)
    (case a_law_mix => k_is)
    (case l_law_mix => k_is)
    (case c_law_mix => k_is)
    (case k_law_mix => k_is)
    (case a_law_draw => k_is)
    (case l_law_draw => k_is)
    (case c_law_draw => k_is)
    (case k_law_draw => k_is)
    (case a_law_pick => k_is)
    (case l_law_pick => k_is)
    (case c_law_pick => k_is)
    (case k_law_pick => k_is)
    (case a_law_refusal => k_is)
    (case l_law_refusal => k_is)
    (case c_law_refusal => k_is)
    (case k_law_refusal => k_is)
    (case a_law_name => k_is)
    (case l_law_name => k_is)
    (case c_law_name => k_is)
    (case k_law_name => k_is)
    (case a_law_deed => k_is)
    (case l_law_deed => k_is)
    (case c_law_deed => k_is)
    (case k_law_deed => k_is)
    (case a_law_deeds => k_is)
    (case l_law_deeds => k_is)
    (case c_law_deeds => k_is)
    (case k_law_deeds => k_is)
    (case a_law_there => k_is)
    (case l_law_there => k_is)
    (case c_law_there => k_is)
    (case k_law_there => k_is)
    (case a_law_shown => k_is)
    (case l_law_shown => k_is)
    (case c_law_shown => k_is)
    (case k_law_shown => k_is)
    (case a_law_one => k_is)
    (case l_law_one => k_is)
    (case c_law_one => k_is)
    (case k_law_one => k_is)
    (case a_law_told => k_is)
    (case l_law_told => k_is)
    (case c_law_told => k_is)
    (case k_law_told => k_is)
    (case a_law_faces => k_is)
    (case l_law_faces => k_is)
    (case c_law_faces => k_is)
    (case k_law_faces => k_is)
    (case a_law_why => k_is)
    (case l_law_why => k_is)
    (case c_law_why => k_is)
    (case k_law_why => k_is)
    (case a_law => k_is)
    (case l_law => k_is)
    (case c_law => k_is)
    (case k_law => k_is)
    (case q_SMALL => k_is)
    (case q_MOST_NAME => k_is)
    (case q_MOST_WORTH => k_is)
    (case q_MOST_STAMP => k_is)
    (case q_MOST_HAND => k_is)
    (case pg_Row => k_is)
    (case hd_Row => k_is)
    (case po_Row => k_is)
    (case sa_Row => k_is)
    (case mk_Row => k_is)
    (case kc_Row => k_is)
    (case n_Row_key => k_is)
    (case n_Row_name => k_is)
    (case n_Row_since => k_is)
    (case n_Row_worth => k_is)
    (case n_Row_is_dropped => k_is)
    (case xg_FallError => k_is)
    (case xe_FallError => k_exc)
    (case xk_FallError => k_is)
    (case xb_FallError => first | k_is | kernel_rfl)
    (case xt_FallError => first | k_is | kernel_rfl)
    (case xg_BadDeed => k_is)
    (case xe_BadDeed => k_exc)
    (case xk_BadDeed => k_is)
    (case xb_BadDeed => first | k_is | kernel_rfl)
    (case xt_BadDeed => first | k_is | kernel_rfl)
    (case xg_NoRow => k_is)
    (case xe_NoRow => k_exc)
    (case xk_NoRow => k_is)
    (case xb_NoRow => first | k_is | kernel_rfl)
    (case xt_NoRow => first | k_is | kernel_rfl)
    (case xg_Taken => k_is)
    (case xe_Taken => k_exc)
    (case xk_Taken => k_is)
    (case xb_Taken => first | k_is | kernel_rfl)
    (case xt_Taken => first | k_is | kernel_rfl)
    (case xg_BadName => k_is)
    (case xe_BadName => k_exc)
    (case xk_BadName => k_is)
    (case xb_BadName => first | k_is | kernel_rfl)
    (case xt_BadName => first | k_is | kernel_rfl)
    (case xg_BadNumber => k_is)
    (case xe_BadNumber => k_exc)
    (case xk_BadNumber => k_is)
    (case xb_BadNumber => first | k_is | kernel_rfl)
    (case xt_BadNumber => first | k_is | kernel_rfl)
    (case xg_Nothing => k_is)
    (case xe_Nothing => k_exc)
    (case xk_Nothing => k_is)
    (case xb_Nothing => first | k_is | kernel_rfl)
    (case xt_Nothing => first | k_is | kernel_rfl)
    (case xg_BadText => k_is)
    (case xe_BadText => k_exc)
    (case xk_BadText => k_is)
    (case xb_BadText => first | k_is | kernel_rfl)
    (case xt_BadText => first | k_is | kernel_rfl)
    (case xd_FallError => k_is)
    (case xs_BadDeed => first | k_is | kernel_rfl)
    (case x1_BadDeed => first | k_is | kernel_rfl)
    (case x2_BadDeed => first | k_is | kernel_rfl)
    (case x4_BadDeed => first | k_is | kernel_rfl)
    (case x5_BadDeed => first | k_is | kernel_rfl)
    (case x8_BadDeed => first | k_is | kernel_rfl)
    (case y_BadDeed_BadDeed => first | k_is | kernel_rfl)
    (case y_BadDeed_NoRow => first | k_is | kernel_rfl)
    (case y_BadDeed_Taken => first | k_is | kernel_rfl)
    (case y_BadDeed_BadName => first | k_is | kernel_rfl)
    (case y_BadDeed_BadNumber => first | k_is | kernel_rfl)
    (case y_BadDeed_Nothing => first | k_is | kernel_rfl)
    (case y_BadDeed_BadText => first | k_is | kernel_rfl)
    (case yv_BadDeed => first | k_is | kernel_rfl)
    (case xs_NoRow => first | k_is | kernel_rfl)
    (case x1_NoRow => first | k_is | kernel_rfl)
    (case x2_NoRow => first | k_is | kernel_rfl)
    (case x4_NoRow => first | k_is | kernel_rfl)
    (case x5_NoRow => first | k_is | kernel_rfl)
    (case x8_NoRow => first | k_is | kernel_rfl)
    (case y_NoRow_BadDeed => first | k_is | kernel_rfl)
    (case y_NoRow_NoRow => first | k_is | kernel_rfl)
    (case y_NoRow_Taken => first | k_is | kernel_rfl)
    (case y_NoRow_BadName => first | k_is | kernel_rfl)
    (case y_NoRow_BadNumber => first | k_is | kernel_rfl)
    (case y_NoRow_Nothing => first | k_is | kernel_rfl)
    (case y_NoRow_BadText => first | k_is | kernel_rfl)
    (case yv_NoRow => first | k_is | kernel_rfl)
    (case xs_Taken => first | k_is | kernel_rfl)
    (case x1_Taken => first | k_is | kernel_rfl)
    (case x2_Taken => first | k_is | kernel_rfl)
    (case x4_Taken => first | k_is | kernel_rfl)
    (case x5_Taken => first | k_is | kernel_rfl)
    (case x8_Taken => first | k_is | kernel_rfl)
    (case y_Taken_BadDeed => first | k_is | kernel_rfl)
    (case y_Taken_NoRow => first | k_is | kernel_rfl)
    (case y_Taken_Taken => first | k_is | kernel_rfl)
    (case y_Taken_BadName => first | k_is | kernel_rfl)
    (case y_Taken_BadNumber => first | k_is | kernel_rfl)
    (case y_Taken_Nothing => first | k_is | kernel_rfl)
    (case y_Taken_BadText => first | k_is | kernel_rfl)
    (case yv_Taken => first | k_is | kernel_rfl)
    (case xs_BadName => first | k_is | kernel_rfl)
    (case x1_BadName => first | k_is | kernel_rfl)
    (case x2_BadName => first | k_is | kernel_rfl)
    (case x4_BadName => first | k_is | kernel_rfl)
    (case x5_BadName => first | k_is | kernel_rfl)
    (case x8_BadName => first | k_is | kernel_rfl)
    (case y_BadName_BadDeed => first | k_is | kernel_rfl)
    (case y_BadName_NoRow => first | k_is | kernel_rfl)
    (case y_BadName_Taken => first | k_is | kernel_rfl)
    (case y_BadName_BadName => first | k_is | kernel_rfl)
    (case y_BadName_BadNumber => first | k_is | kernel_rfl)
    (case y_BadName_Nothing => first | k_is | kernel_rfl)
    (case y_BadName_BadText => first | k_is | kernel_rfl)
    (case yv_BadName => first | k_is | kernel_rfl)
    (case xs_BadNumber => first | k_is | kernel_rfl)
    (case x1_BadNumber => first | k_is | kernel_rfl)
    (case x2_BadNumber => first | k_is | kernel_rfl)
    (case x4_BadNumber => first | k_is | kernel_rfl)
    (case x5_BadNumber => first | k_is | kernel_rfl)
    (case x8_BadNumber => first | k_is | kernel_rfl)
    (case y_BadNumber_BadDeed => first | k_is | kernel_rfl)
    (case y_BadNumber_NoRow => first | k_is | kernel_rfl)
    (case y_BadNumber_Taken => first | k_is | kernel_rfl)
    (case y_BadNumber_BadName => first | k_is | kernel_rfl)
    (case y_BadNumber_BadNumber => first | k_is | kernel_rfl)
    (case y_BadNumber_Nothing => first | k_is | kernel_rfl)
    (case y_BadNumber_BadText => first | k_is | kernel_rfl)
    (case yv_BadNumber => first | k_is | kernel_rfl)
    (case xs_Nothing => first | k_is | kernel_rfl)
    (case x1_Nothing => first | k_is | kernel_rfl)
    (case x2_Nothing => first | k_is | kernel_rfl)
    (case x4_Nothing => first | k_is | kernel_rfl)
    (case x5_Nothing => first | k_is | kernel_rfl)
    (case x8_Nothing => first | k_is | kernel_rfl)
    (case y_Nothing_BadDeed => first | k_is | kernel_rfl)
    (case y_Nothing_NoRow => first | k_is | kernel_rfl)
    (case y_Nothing_Taken => first | k_is | kernel_rfl)
    (case y_Nothing_BadName => first | k_is | kernel_rfl)
    (case y_Nothing_BadNumber => first | k_is | kernel_rfl)
    (case y_Nothing_Nothing => first | k_is | kernel_rfl)
    (case y_Nothing_BadText => first | k_is | kernel_rfl)
    (case yv_Nothing => first | k_is | kernel_rfl)
    (case xs_BadText => first | k_is | kernel_rfl)
    (case x1_BadText => first | k_is | kernel_rfl)
    (case x2_BadText => first | k_is | kernel_rfl)
    (case x4_BadText => first | k_is | kernel_rfl)
    (case x5_BadText => first | k_is | kernel_rfl)
    (case x8_BadText => first | k_is | kernel_rfl)
    (case y_BadText_BadDeed => first | k_is | kernel_rfl)
    (case y_BadText_NoRow => first | k_is | kernel_rfl)
    (case y_BadText_Taken => first | k_is | kernel_rfl)
    (case y_BadText_BadName => first | k_is | kernel_rfl)
    (case y_BadText_BadNumber => first | k_is | kernel_rfl)
    (case y_BadText_Nothing => first | k_is | kernel_rfl)
    (case y_BadText_BadText => first | k_is | kernel_rfl)
    (case yv_BadText => first | k_is | kernel_rfl)
    (case x6 => first | k_is | kernel_rfl)
    (case x7 => first | k_is | kernel_rfl)
    (case aS => k_is)
    (case dS => kernel_rfl)
    (case zS_new => first | k_is | kernel_rfl)
    (case zS_name => first | k_is | kernel_rfl)
    (case zS_worth => first | k_is | kernel_rfl)
    (case zS_drop => first | k_is | kernel_rfl)
    (case zS_old => first | k_is | kernel_rfl)
    (case z_len => k_is)
    (case z_all => k_is)
    (case z_sorted => k_is)
    (case z_set => k_is)
    (case z_list => k_is)
    (case z_str => k_is)
    (case z_int => k_is)
    (case z_range => k_is)
    (case z_isinstance => k_is)
    (case z_dict => k_is)
    (case z_ValueError => k_is)
    (case chd => kernel_rfl)
    (case nPt => kernel_rfl)
